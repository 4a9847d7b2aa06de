import PyProof.Rows.All
import Wide.All
import OpenK.AllK
import Wide.FinOn
import HandS.ForMost
import HandS.Walk
import HandS.Deep
import HandS.More
import HandS.Iter
import HandS.IsInst
import KE.KeyNested
import HandS.Text
import KE.KDictDisplayH
import HandS.SetFor
import HandS.Strs
import HandS.WordsDict
import HandS.Dict
import KE.Datum
import HandS.TupAny
import HandS.Style
import KE.KStateDown
import Lean
import HandS.WordsExc
import HandS.Defaults
import HandS.Head0
import HandS.Head1
import HandS.Head2
import HandS.HeadEnd
import HandS.HeadHook1
import HandS.HeadHook2
import HandS.HeadHook4
import PyProof.ReprLen
import PySem.Challenge.RW_fourfaces_k62_torn_logs_judged
set_option Elab.async false
set_option linter.all false
set_option autoImplicit false
set_option maxRecDepth 100000
set_option maxHeartbeats 1000000
/-! DI0: data as trees, how a heap bears them, the state of a body. -/
namespace DI
open PySem PySem.Spec PyProof.Rows L2

inductive D where
  | non
  | bl (b : Bool)
  | int (i : Int)
  | str (s : Str)
  | lst (xs : List D)
  | tup (xs : List D)
  | dct (kvs : List (D × D))
  | opq (v : V)
  | scr (a : Addr) (ns : List Int)
  | dcn (W : Program × World) (kvs : List (NestedKey × D))

/-- a dict whose keys are nested tuples -/
def DnO (W : Program × World) (a : Addr) (xs : List (NestedKey × Addr × Value)) : HO := .ext fun h =>
  ∃ o es ep, h.get? a = some o ∧ o.ExactDict ∧ o.data = .dict es ep ∧ es.toList = xs.map (entryOfKey (nestedKind W.1 W.2)) ∧ (xs.map (·.1)).Nodup ∧ xs.length ≤ sizeLine ∧ (a == sysModules) = false
mutual
/-- data as a key -/
def D.nk : D → Option NestedKey
  | .non => some .none
  | .bl b => some (.num (if b = true then 1 else 0))
  | .int i => some (.num i)
  | .str x => some (.text x)
  | .tup ds => (nkA ds).map .tup
  | _ => none
def nkA : List D → Option (List NestedKey)
  | [] => some []
  | d :: ds => match d.nk, nkA ds with
    | some k, some ks => some (k :: ks)
    | _, _ => none
end

def kD : Key → D
  | .inl i => .int i
  | .inr x => .str x

def D.flat : D → Bool
  | .non | .bl _ | .int _ | .str _ | .opq _ => true
  | _ => false

mutual
inductive Rp (K : PySem.W.Frag) (G : Hp) : V → D → Prop
  | non : Rp K G .non .non
  | bl (b : Bool) : Rp K G (.bl b) (.bl b)
  | int (i : Int) : Rp K G (.int i) (.int i)
  | str (x : Str) : Rp K G (.str x) (.str x)
  | lst {a : Addr} {vs : List V} {ds : List D} : G a = some (.lst vs) → RpA K G vs ds → Rp K G (.ref a) (.lst ds)
  | tup {a : Addr} {vs : List V} {ds : List D} : SqT K G a vs → RpA K G vs ds → Rp K G (.ref a) (.tup ds)
  | dct {a : Addr} {kvs : List (Key × V)} {ds : List (D × D)} : Rd G a (.dK kvs) → RpK K G kvs ds → Rp K G (.ref a) (.dct ds)
  | opq (v : V) : Rp K G v (.opq v)
  | scr {a : Addr} {ns : List Int} : SqL K G a (ns.map V.int) → Rp K G (.ref a) (.scr a ns)
  | dcn {a : Addr} {W : Program × World} {xs : List (NestedKey × Addr × Value)} {ds : List (NestedKey × D)} : G a = some (DnO W a xs) → RpN K G xs ds → Rp K G (.ref a) (.dcn W ds)
inductive RpN (K : PySem.W.Frag) (G : Hp) : List (NestedKey × Addr × Value) → List (NestedKey × D) → Prop
  | nil : RpN K G [] []
  | cons {k : NestedKey} {b : Addr} {u : Value} {v : V} {dk d : D} {xs : List (NestedKey × Addr × Value)} {ds : List (NestedKey × D)} : Rp K G (.ref b) dk → dk.nk = some k → k.depth ≤ 8 → RelV v u → Rp K G v d → RpN K G xs ds → RpN K G ((k, b, u) :: xs) ((k, d) :: ds)
inductive RpA (K : PySem.W.Frag) (G : Hp) : List V → List D → Prop
  | nil : RpA K G [] []
  | cons {v : V} {d : D} {vs : List V} {ds : List D} : Rp K G v d → RpA K G vs ds → RpA K G (v :: vs) (d :: ds)
inductive RpK (K : PySem.W.Frag) (G : Hp) : List (Key × V) → List (D × D) → Prop
  | nil : RpK K G [] []
  | cons {k : Key} {v : V} {d : D} {kvs : List (Key × V)} {ds : List (D × D)} : Rp K G v d → RpK K G kvs ds → RpK K G ((k, v) :: kvs) ((kD k, d) :: ds)
end

theorem same_sqT {K : PySem.W.Frag} {G G' : Hp} {a : Addr} {vs : List V} (e : Same G G') (h : SqT K G a vs) : SqT K G' a vs := by
  rcases h with (h | ⟨o, h⟩) | h
  · exact .inl (.inl (e _ _ h))
  · exact .inl (.inr ⟨o, e _ _ h⟩)
  · exact .inr h

theorem same_sqL {K : PySem.W.Frag} {G G' : Hp} {a : Addr} {vs : List V} (e : Same G G') (h : SqL K G a vs) : SqL K G' a vs := by
  rcases h with (h | ⟨o, h⟩) | h
  · exact .inl (.inl (e _ _ h))
  · exact .inl (.inr ⟨o, e _ _ h⟩)
  · exact .inr h
theorem same_rd {G G' : Hp} {a : Addr} {u : HO} (e : Same G G') (h : Rd G a u) : Rd G' a u := by
  rcases h with h | ⟨o, h⟩
  · exact .inl (e _ _ h)
  · exact .inr ⟨o, e _ _ h⟩
mutual
theorem Rp.mono {K : PySem.W.Frag} {G G' : Hp} (e : Same G G') : ∀ {v : V} {d : D}, Rp K G v d → Rp K G' v d
  | _, _, .non => .non
  | _, _, .bl b => .bl b
  | _, _, .int i => .int i
  | _, _, .str x => .str x
  | _, _, .lst h r => .lst (e _ _ h) (RpA.mono e r)
  | _, _, .tup h r => .tup (same_sqT e h) (RpA.mono e r)
  | _, _, .dct h r => .dct (same_rd e h) (RpK.mono e r)
  | _, _, .opq v => .opq v
  | _, _, .scr h => .scr (same_sqL e h)
  | _, _, .dcn h r => .dcn (e _ _ h) (RpN.mono e r)
theorem RpN.mono {K : PySem.W.Frag} {G G' : Hp} (e : Same G G') : ∀ {xs : List (NestedKey × Addr × Value)} {ds : List (NestedKey × D)}, RpN K G xs ds → RpN K G' xs ds
  | _, _, .nil => .nil
  | _, _, .cons h1 h2 h3 h4 h5 r => .cons (Rp.mono e h1) h2 h3 h4 (Rp.mono e h5) (RpN.mono e r)
theorem RpA.mono {K : PySem.W.Frag} {G G' : Hp} (e : Same G G') : ∀ {vs : List V} {ds : List D}, RpA K G vs ds → RpA K G' vs ds
  | _, _, .nil => .nil
  | _, _, .cons h r => .cons (Rp.mono e h) (RpA.mono e r)
theorem RpK.mono {K : PySem.W.Frag} {G G' : Hp} (e : Same G G') : ∀ {kvs : List (Key × V)} {ds : List (D × D)}, RpK K G kvs ds → RpK K G' kvs ds
  | _, _, .nil => .nil
  | _, _, .cons h r => .cons (Rp.mono e h) (RpK.mono e r)
end

/-- grown, or a dict locked or unlocked -/
def Wk (G G' : Hp) : Prop := ∀ a u, G a = some u → G' a = some u ∨ ∃ kvs, (u = .dK kvs ∨ ∃ o, u = .frz o (.dK kvs)) ∧ Rd G' a (.dK kvs)
theorem wk_lst {G G' : Hp} {a : Addr} {vs : List V} (w : Wk G G') (h : G a = some (.lst vs)) : G' a = some (.lst vs) := by
  rcases w a _ h with h | ⟨kvs, h | ⟨o, h⟩, _⟩
  · exact h
  · cases h
  · cases h
theorem wk_sqT {K : PySem.W.Frag} {G G' : Hp} {a : Addr} {vs : List V} (w : Wk G G') (h : SqT K G a vs) : SqT K G' a vs := by
  rcases h with (h | ⟨o, h⟩) | h
  · rcases w a _ h with h | ⟨kvs, h | ⟨o, h⟩, _⟩
    · exact .inl (.inl h)
    · cases h
    · cases h
  · rcases w a _ h with h | ⟨kvs, h | ⟨o, h⟩, _⟩
    · exact .inl (.inr ⟨o, h⟩)
    · cases h
    · cases h
  · exact .inr h
theorem wk_sqL {K : PySem.W.Frag} {G G' : Hp} {a : Addr} {vs : List V} (w : Wk G G') (h : SqL K G a vs) : SqL K G' a vs := by
  rcases h with (h | ⟨o, h⟩) | h
  · exact .inl (.inl (wk_lst w h))
  · rcases w a _ h with h | ⟨kvs, h | ⟨o, h⟩, _⟩
    · exact .inl (.inr ⟨o, h⟩)
    · cases h
    · cases h
  · exact .inr h
theorem wk_rd {G G' : Hp} {a : Addr} {kvs : List (Key × V)} (w : Wk G G') (h : Rd G a (.dK kvs)) : Rd G' a (.dK kvs) := by
  rcases h with h | ⟨o, h⟩
  · rcases w a _ h with h | ⟨kvs', h | ⟨o, h⟩, q⟩
    · exact .inl h
    · cases h; exact q
    · cases h
  · rcases w a _ h with h | ⟨kvs', h | ⟨o, h⟩, q⟩
    · exact .inr ⟨o, h⟩
    · cases h
    · cases h; exact q
theorem wk_dn {G G' : Hp} {a : Addr} {W : Program × World} {xs : List (NestedKey × Addr × Value)} (w : Wk G G') (h : G a = some (DnO W a xs)) : G' a = some (DnO W a xs) := by
  rcases w a _ h with h | ⟨kvs, h | ⟨o, h⟩, _⟩
  · exact h
  · cases h
  · cases h
mutual
theorem Rp.wk {K : PySem.W.Frag} {G G' : Hp} (w : Wk G G') : ∀ {v : V} {d : D}, Rp K G v d → Rp K G' v d
  | _, _, .non => .non
  | _, _, .bl b => .bl b
  | _, _, .int i => .int i
  | _, _, .str x => .str x
  | _, _, .lst h r => .lst (wk_lst w h) (RpA.wk w r)
  | _, _, .tup h r => .tup (wk_sqT w h) (RpA.wk w r)
  | _, _, .dct h r => .dct (wk_rd w h) (RpK.wk w r)
  | _, _, .opq v => .opq v
  | _, _, .scr h => .scr (wk_sqL w h)
  | _, _, .dcn h r => .dcn (wk_dn w h) (RpN.wk w r)
theorem RpN.wk {K : PySem.W.Frag} {G G' : Hp} (w : Wk G G') : ∀ {xs : List (NestedKey × Addr × Value)} {ds : List (NestedKey × D)}, RpN K G xs ds → RpN K G' xs ds
  | _, _, .nil => .nil
  | _, _, .cons h1 h2 h3 h4 h5 r => .cons (Rp.wk w h1) h2 h3 h4 (Rp.wk w h5) (RpN.wk w r)
theorem RpA.wk {K : PySem.W.Frag} {G G' : Hp} (w : Wk G G') : ∀ {vs : List V} {ds : List D}, RpA K G vs ds → RpA K G' vs ds
  | _, _, .nil => .nil
  | _, _, .cons h r => .cons (Rp.wk w h) (RpA.wk w r)
theorem RpK.wk {K : PySem.W.Frag} {G G' : Hp} (w : Wk G G') : ∀ {kvs : List (Key × V)} {ds : List (D × D)}, RpK K G kvs ds → RpK K G' kvs ds
  | _, _, .nil => .nil
  | _, _, .cons h r => .cons (Rp.wk w h) (RpK.wk w r)
end

theorem Rp.flat {K : PySem.W.Frag} {G G' : Hp} {v : V} {d : D} (h : Rp K G v d) (f : d.flat = true) : Rp K G' v d := by
  cases h with
  | non => exact .non
  | bl b => exact .bl b
  | int i => exact .int i
  | str x => exact .str x
  | lst _ _ => cases f
  | tup _ _ => cases f
  | dct _ _ => cases f
  | opq v => exact .opq v
  | scr _ => cases f
  | dcn _ _ => cases f

section
variable {K : PySem.W.Frag} {G : Hp}
theorem RpA.length {vs : List V} {ds : List D} (h : RpA K G vs ds) : vs.length = ds.length := by
  induction vs generalizing ds with
  | nil => cases h; rfl
  | cons v vs ih => cases h with | cons a b => simp [ih b]
theorem RpA.get {vs : List V} {ds : List D} {i : Nat} {d : D} (h : RpA K G vs ds) (e : ds[i]? = some d) : ∃ v, vs[i]? = some v ∧ Rp K G v d := by
  induction i generalizing vs ds with
  | zero =>
    cases h with
    | nil => cases e
    | cons a b => cases e; exact ⟨_, rfl, a⟩
  | succ i ih =>
    cases h with
    | nil => cases e
    | cons a b => obtain ⟨v, h1, h2⟩ := ih b (by simpa using e); exact ⟨v, by simpa using h1, h2⟩
theorem RpA.get' {vs : List V} {ds : List D} {i : Nat} {v : V} (h : RpA K G vs ds) (e : vs[i]? = some v) : ∃ d, ds[i]? = some d ∧ Rp K G v d := by
  induction i generalizing vs ds with
  | zero =>
    cases h with
    | nil => cases e
    | cons a b => cases e; exact ⟨_, rfl, a⟩
  | succ i ih =>
    cases h with
    | nil => cases e
    | cons a b => obtain ⟨v, h1, h2⟩ := ih b (by simpa using e); exact ⟨v, by simpa using h1, h2⟩
theorem RpA.append {vs ws : List V} {ds es : List D} (h : RpA K G vs ds) (h' : RpA K G ws es) : RpA K G (vs ++ ws) (ds ++ es) := by
  induction vs generalizing ds with
  | nil => cases h; exact h'
  | cons v vs ih => cases h with | cons a b => exact .cons a (ih b)
theorem RpA.take {vs : List V} {ds : List D} (n : Nat) (h : RpA K G vs ds) : RpA K G (vs.take n) (ds.take n) := by
  induction n generalizing vs ds with
  | zero => exact .nil
  | succ n ih => cases h with
    | nil => exact .nil
    | cons a b => exact .cons a (ih b)
theorem RpA.drop {vs : List V} {ds : List D} (n : Nat) (h : RpA K G vs ds) : RpA K G (vs.drop n) (ds.drop n) := by
  induction n generalizing vs ds with
  | zero => exact h
  | succ n ih => cases h with
    | nil => exact .nil
    | cons a b => exact ih b
theorem RpA.set {vs : List V} {ds : List D} {v : V} {d : D} (n : Nat) (h : RpA K G vs ds) (hv : Rp K G v d) : RpA K G (vs.set n v) (ds.set n d) := by
  induction n generalizing vs ds with
  | zero => cases h with
    | nil => exact .nil
    | cons a b => exact .cons hv b
  | succ n ih => cases h with
    | nil => exact .nil
    | cons a b => exact .cons a (ih b)
theorem RpA.eraseIdx {vs : List V} {ds : List D} (n : Nat) (h : RpA K G vs ds) : RpA K G (vs.eraseIdx n) (ds.eraseIdx n) := by
  induction n generalizing vs ds with
  | zero => cases h with
    | nil => exact .nil
    | cons a b => exact b
  | succ n ih => cases h with
    | nil => exact .nil
    | cons a b => exact .cons a (ih b)
theorem RpA.dropLast {vs : List V} {ds : List D} (h : RpA K G vs ds) : RpA K G vs.dropLast ds.dropLast := by
  rw [List.dropLast_eq_take, List.dropLast_eq_take, h.length]
  exact h.take _
theorem RpA.ints : ∀ (ns : List Int), RpA K G (ns.map V.int) (ns.map D.int)
  | [] => .nil
  | n :: ns => .cons (.int n) (RpA.ints ns)
theorem RpA.strs : ∀ (ns : List Str), RpA K G (ns.map V.str) (ns.map D.str)
  | [] => .nil
  | n :: ns => .cons (.str n) (RpA.strs ns)
theorem RpA.int_of {vs : List V} {ns : List Int} (h : RpA K G vs (ns.map D.int)) : vs = ns.map V.int := by
  induction ns generalizing vs with
  | nil => cases h; rfl
  | cons n ns ih =>
    cases h with
    | cons a b => cases a; rw [ih b]; rfl
theorem RpA.str_of {vs : List V} {ns : List Str} (h : RpA K G vs (ns.map D.str)) : vs = ns.map V.str := by
  induction ns generalizing vs with
  | nil => cases h; rfl
  | cons n ns ih =>
    cases h with
    | cons a b => cases a; rw [ih b]; rfl
end

/-! ### the state of a body -/
/-- what a slot holds: nothing that is known; a value that is not changed any more; a list or dict of this body's own -/
inductive M where
  | un
  | fz (d : D)
  | ow (d : D)
/-- what an expression gives: a value that is not changed any more; a new list or dict; the own list or dict in a slot -/
inductive R where
  | fz (d : D)
  | ow (d : D)
  | al (i : Nat)

/-- the bag of a law: where it stands, where its cells stand -/
abbrev Bag := Addr × Addr
def BagOk (K : PySem.W.Frag) (G H : Hp) (b : Bag) : Prop := G b.1 = none ∧ ∃ (x m c : Int) (ns : List Int),
  H b.1 = some (.lst [.int x, .int m, .int c, .ref b.2]) ∧ G b.2 = some (.lst (ns.map V.int)) ∧ 0 ≤ x ∧ 0 ≤ m ∧ m < 2147483647 ∧ 0 ≤ c ∧ ∀ n ∈ ns, 0 ≤ n
/-- a is not the bag -/
def nbag (β : Option Bag) (a : Addr) : Prop := ∀ b, β = some b → b.1 ≠ a

def Con (K : PySem.W.Frag) (G H : Hp) (a : Addr) : D → Prop
  | .lst ds => ∃ vs, H a = some (.lst vs) ∧ RpA K G vs ds
  | .dct ds => ∃ kvs, H a = some (.dK kvs) ∧ RpK K G kvs ds
  | .dcn W ds => ∃ xs, H a = some (DnO W a xs) ∧ RpN K G xs ds
  | _ => False

/-- the frame: objects at P stand as in H0 and are in nobody's data -/
structure Fr where
  K : PySem.W.Frag
  P : Addr → Prop
  H0 : Hp

structure Sta where
  sl : List M
  bag : Option Bag

structure Rl (F : Fr) (G H : Hp) (σ : L2.St) (ρ : Sta) : Prop where
  sub : Same G H
  fr : ∀ a, F.P a → G a = none ∧ H a = F.H0 a ∧ H a ≠ none ∧ nbag ρ.bag a
  len : σ.length = ρ.sl.length
  fz : ∀ (i : Nat) (d : D), ρ.sl[i]? = some (.fz d) → ∃ v, σ[i]? = some (some v) ∧ Rp F.K G v d
  ow : ∀ (i : Nat) (d : D), ρ.sl[i]? = some (.ow d) → ∃ a, σ[i]? = some (some (.ref a)) ∧ ¬ F.P a ∧ G a = none ∧ Con F.K G H a d
  ap : ∀ (i j : Nat) (d e : D) (a : Addr), ρ.sl[i]? = some (.ow d) → ρ.sl[j]? = some (.ow e) → σ[i]? = some (some (.ref a)) → σ[j]? = some (some (.ref a)) → i = j
  bg : ∀ (b : Bag), ρ.bag = some b → BagOk F.K G H b
  bo : ∀ (b : Bag) (i : Nat) (d : D), ρ.bag = some b → ρ.sl[i]? = some (.ow d) → σ[i]? ≠ some (some (.ref b.1))

/-- a new own object -/
structure Nw (F : Fr) (G H : Hp) (σ : L2.St) (ρ : Sta) (a : Addr) (d : D) : Prop where
  np : ¬ F.P a
  gn : G a = none
  con : Con F.K G H a d
  sl : ∀ (i : Nat) (d : D), ρ.sl[i]? = some (.ow d) → σ[i]? ≠ some (some (.ref a))
  bg : nbag ρ.bag a
/-- how a result stands in the heap -/
def RR (F : Fr) (G H : Hp) (σ : L2.St) (ρ : Sta) (v : V) : R → Prop
  | .fz d => Rp F.K G v d
  | .al i => (∃ d, ρ.sl[i]? = some (.ow d)) ∧ σ[i]? = some (some v)
  | .ow d => ∃ a, v = .ref a ∧ Nw F G H σ ρ a d

section
variable {F : Fr} {G H : Hp} {σ : L2.St} {ρ : Sta}
theorem same_new {H : Hp} {p : Addr} {o : HO} (h : H p = none) : Same H (upd H p o) := fun b x e => by
  rw [upd_ne (ne_of_none e h)]
  exact e
theorem Rl.gnone (r : Rl F G H σ ρ) {p : Addr} (h : H p = none) : G p = none := r.sub.free h
theorem Rl.pnone (r : Rl F G H σ ρ) {p : Addr} (h : H p = none) : ¬ F.P p := fun q => (r.fr p q).2.2.1 h
theorem Con.sub {K : PySem.W.Frag} {G' H' : Hp} {a : Addr} {d : D} (h : Con K G H a d) (hg : Same G G') (hh : H' a = H a) : Con K G' H' a d := by
  cases d with
  | lst ds => obtain ⟨vs, h1, h2⟩ := h; exact ⟨vs, hh.trans h1, h2.mono hg⟩
  | dct ds => obtain ⟨vs, h1, h2⟩ := h; exact ⟨vs, hh.trans h1, h2.mono hg⟩
  | dcn W ds => obtain ⟨vs, h1, h2⟩ := h; exact ⟨vs, hh.trans h1, h2.mono hg⟩
  | _ => exact h.elim
theorem Con.some {K : PySem.W.Frag} {a : Addr} {d : D} (h : Con K G H a d) : H a ≠ none := by
  cases d with
  | lst ds => obtain ⟨vs, h1, h2⟩ := h; rw [h1]; exact nofun
  | dct ds => obtain ⟨vs, h1, h2⟩ := h; rw [h1]; exact nofun
  | dcn W ds => obtain ⟨vs, h1, h2⟩ := h; rw [h1]; exact nofun
  | _ => exact h.elim
theorem BagOk.sub {K : PySem.W.Frag} {G' H' : Hp} {a : Bag} (h : BagOk K G H a) (hg : Same G G') (hn : G' a.1 = none) (hh : H' a.1 = H a.1) : BagOk K G' H' a := by
  obtain ⟨_, x, m, c, ns, h1, h2, h3⟩ := h
  exact ⟨hn, x, m, c, ns, hh.trans h1, hg _ _ h2, h3⟩
theorem BagOk.some {K : PySem.W.Frag} {a : Bag} (h : BagOk K G H a) : H a.1 ≠ none := by
  obtain ⟨_, x, m, c, ns, h1, h2, h3⟩ := h
  rw [h1]
  exact nofun

/-- the heap has grown: G' over G, H' over H, nothing that stood is taken into G' -/
structure Gw (G H G' H' : Hp) : Prop where
  g : Same G G'
  h : Same H H'
  s : Same G' H'
  n : ∀ a, H a ≠ none → G a = none → G' a = none
theorem Gw.at {G' H' : Hp} (w : Gw G H G' H') {a : Addr} (h : H a ≠ none) : H' a = H a := by
  cases e : H a with
  | none => exact absurd e h
  | some o => exact w.h _ _ e
theorem Gw.nw {G' H' : Hp} (w : Gw G H G' H') {a : Addr} {d : D} (h : Nw F G H σ ρ a d) : Nw F G' H' σ ρ a d :=
  ⟨h.np, w.n a h.con.some h.gn, h.con.sub w.g (w.at h.con.some), h.sl, h.bg⟩
theorem Rl.grow {G' H' : Hp} (r : Rl F G H σ ρ) (w : Gw G H G' H') : Rl F G' H' σ ρ := by
  refine ⟨w.s, fun a h => ?_, r.len, fun i d e => ?_, fun i d e => ?_, r.ap, fun b e => ?_, r.bo⟩
  · obtain ⟨q1, q2, q3, q4⟩ := r.fr a h
    refine ⟨w.n a q3 q1, (w.at q3).trans q2, ?_, q4⟩
    rw [w.at q3]
    exact q3
  · obtain ⟨v, h1, h2⟩ := r.fz i d e
    exact ⟨v, h1, h2.mono w.g⟩
  · obtain ⟨a, h1, h2, h3, h4⟩ := r.ow i d e
    exact ⟨a, h1, h2, w.n a h4.some h3, h4.sub w.g (w.at h4.some)⟩
  · have q := r.bg b e
    exact q.sub w.g (w.n b.1 q.some q.1) (w.at q.some)
theorem RR.grow {G' H' : Hp} {v : V} {x : R} (q : RR F G H σ ρ v x) (w : Gw G H G' H') : RR F G' H' σ ρ v x := by
  cases x with
  | fz d => exact Rp.mono w.g q
  | al i => exact q
  | ow d => obtain ⟨a, e, n⟩ := q; exact ⟨a, e, w.nw n⟩
theorem Gw.new (hs : Same G H) {p : Addr} {o : HO} (h : H p = none) : Gw G H G (upd H p o) :=
  ⟨Same.refl G, same_new h, hs.trans (same_new h), fun _ _ q => q⟩
theorem Gw.newF (hs : Same G H) {p : Addr} {o : HO} (h : H p = none) : Gw G H (upd G p o) (upd H p o) := by
  refine ⟨same_new (hs.free h), same_new h, fun a x e => ?_, fun a q1 q2 => ?_⟩
  · by_cases q : a = p
    · subst q; rw [upd_same] at e ⊢; exact e
    · rw [upd_ne q] at e ⊢; exact hs _ _ e
  · have : a ≠ p := fun e => q1 (by rw [e]; exact h)
    rw [upd_ne this]; exact q2
theorem Gw.refl (hs : Same G H) : Gw G H G H := ⟨Same.refl G, Same.refl H, hs, fun _ _ q => q⟩
theorem Gw.trans {G1 H1 G2 H2 : Hp} (a : Gw G H G1 H1) (b : Gw G1 H1 G2 H2) : Gw G H G2 H2 :=
  ⟨a.g.trans b.g, a.h.trans b.h, b.s, fun x h n => b.n x (by rw [a.at h]; exact h) (a.n x h n)⟩
/-- a new object at p -/
theorem Rl.nw {p : Addr} {o : HO} {d : D} (r : Rl F G H σ ρ) (h : H p = none) (c : Con F.K G (upd H p o) p d) : Nw F G (upd H p o) σ ρ p d := by
  refine ⟨r.pnone h, r.gnone h, c, fun i e hi hs => ?_, fun b e => ?_⟩
  · obtain ⟨a, h1, _, _, h4⟩ := r.ow i e hi
    rw [h1] at hs
    cases hs
    exact h4.some h
  · intro z
    have q := (r.bg _ e).some
    rw [z] at q
    exact q h
/-- an own thing is not changed any more -/
theorem frozen {K : PySem.W.Frag} {a : Addr} {d : D} (hs : Same G H) (gn : G a = none) (c : Con K G H a d) : ∃ o, H a = some o ∧ Same G (upd G a o) ∧ Same (upd G a o) H ∧ Rp K (upd G a o) (.ref a) d := by
  have key : ∀ o, H a = some o → Same G (upd G a o) ∧ Same (upd G a o) H := fun o e => ⟨same_new gn, fun b x q => by
    by_cases hb : b = a
    · subst hb; rw [upd_same] at q; rw [e]; exact q
    · rw [upd_ne hb] at q; exact hs _ _ q⟩
  cases d with
  | lst ds =>
    obtain ⟨vs, h1, h2⟩ := c
    exact ⟨_, h1, (key _ h1).1, (key _ h1).2, .lst upd_same (h2.mono (key _ h1).1)⟩
  | dct ds =>
    obtain ⟨vs, h1, h2⟩ := c
    exact ⟨_, h1, (key _ h1).1, (key _ h1).2, .dct (.inl upd_same) (h2.mono (key _ h1).1)⟩
  | dcn W ds =>
    obtain ⟨vs, h1, h2⟩ := c
    exact ⟨_, h1, (key _ h1).1, (key _ h1).2, .dcn upd_same (h2.mono (key _ h1).1)⟩
  | _ => exact c.elim
/-- a new thing is not changed any more -/
theorem Rl.keepN {a : Addr} {d : D} (r : Rl F G H σ ρ) (n : Nw F G H σ ρ a d) : ∃ G', Same G G' ∧ Rl F G' H σ ρ ∧ Rp F.K G' (.ref a) d := by
  obtain ⟨o, ho, h1, h2, h3⟩ := frozen r.sub n.gn n.con
  refine ⟨upd G a o, h1, ?_, h3⟩
  have ne : ∀ b, b ≠ a → upd G a o b = G b := fun b h => upd_ne h
  refine ⟨h2, fun b h => ?_, r.len, fun i e q => ?_, fun i e q => ?_, r.ap, fun b e => ?_, r.bo⟩
  · have hb : b ≠ a := fun e => n.np (e ▸ h)
    obtain ⟨q1, q2, q3, q4⟩ := r.fr b h
    exact ⟨(ne b hb).trans q1, q2, q3, q4⟩
  · obtain ⟨v, q1, q2⟩ := r.fz i e q
    exact ⟨v, q1, q2.mono h1⟩
  · obtain ⟨b, q1, q2, q3, q4⟩ := r.ow i e q
    have hb : b ≠ a := fun z => n.sl i e q (z ▸ q1)
    exact ⟨b, q1, q2, (ne b hb).trans q3, q4.sub h1 rfl⟩
  · have q := r.bg b e
    exact q.sub h1 ((ne b.1 (n.bg b e)).trans q.1) rfl
theorem Con.wk {K : PySem.W.Frag} {G' H' : Hp} {a : Addr} {d : D} (h : Con K G H a d) (w : Wk G G') (hh : H' a = H a) : Con K G' H' a d := by
  cases d with
  | lst ds => obtain ⟨vs, h1, h2⟩ := h; exact ⟨vs, hh.trans h1, h2.wk w⟩
  | dct ds => obtain ⟨vs, h1, h2⟩ := h; exact ⟨vs, hh.trans h1, h2.wk w⟩
  | dcn W ds => obtain ⟨vs, h1, h2⟩ := h; exact ⟨vs, hh.trans h1, h2.wk w⟩
  | _ => exact h.elim
theorem Nw.wk {G' H' : Hp} {a : Addr} {d : D} (n : Nw F G H σ ρ a d) (w : Wk G G') (hn : G' a = none) (hh : H' a = H a) : Nw F G' H' σ ρ a d := ⟨n.np, hn, n.con.wk w hh, n.sl, n.bg⟩
theorem Rl.wk {G' H' : Hp} (r : Rl F G H σ ρ) (w : Wk G G') (s : Same G' H') (hn : ∀ a, G a = none → G' a = none ∧ H' a = H a) : Rl F G' H' σ ρ := by
  refine ⟨s, fun a h => ?_, r.len, fun i d e => ?_, fun i d e => ?_, r.ap, fun b e => ?_, r.bo⟩
  · obtain ⟨q1, q2, q3, q4⟩ := r.fr a h
    obtain ⟨p1, p2⟩ := hn a q1
    exact ⟨p1, p2.trans q2, by rw [p2]; exact q3, q4⟩
  · obtain ⟨v, h1, h2⟩ := r.fz i d e
    exact ⟨v, h1, h2.wk w⟩
  · obtain ⟨a, h1, h2, h3, h4⟩ := r.ow i d e
    obtain ⟨p1, p2⟩ := hn a h3
    exact ⟨a, h1, h2, p1, h4.wk w p2⟩
  · obtain ⟨q0, x, m, c, ns, h1, h2, h3⟩ := r.bg b e
    obtain ⟨p1, p2⟩ := hn b.1 q0
    exact ⟨p1, x, m, c, ns, p2.trans h1, wk_lst w h2, h3⟩
end
end DI

set_option Elab.async false
set_option linter.all false
set_option autoImplicit false
set_option maxRecDepth 100000
set_option maxHeartbeats 1000000
/-! DI1: the small language of bodies over data, and what it asks (weakest preconditions over trees). -/
namespace DI
open PySem PySem.Spec PyProof.Rows L2

/-! ### data as PyData -/
mutual
def D.py : D → PyData
  | .non => .none
  | .bl b => .bool b
  | .int i => .int i
  | .str x => .str x
  | .lst xs => .list (pyA xs)
  | .tup xs => .tuple (pyA xs)
  | .dct kvs => .dict (pyK kvs)
  | .opq _ => .none
  | .scr _ _ => .none
  | .dcn _ _ => .none
def pyA : List D → List PyData
  | [] => []
  | x :: xs => x.py :: pyA xs
def pyK : List (D × D) → List (PyData × PyData)
  | [] => []
  | (k, v) :: r => (k.py, v.py) :: pyK r
end
mutual
/-- no opaque part -/
def D.ok : D → Bool
  | .lst xs => okA xs
  | .tup xs => okA xs
  | .dct kvs => okK kvs
  | .opq _ => false
  | .scr _ _ => false
  | .dcn _ _ => false
  | _ => true
def okA : List D → Bool
  | [] => true
  | x :: xs => x.ok && okA xs
def okK : List (D × D) → Bool
  | [] => true
  | (k, v) :: r => k.ok && v.ok && okK r
end
/-- what may be compared -/
def D.cmp (d : D) : Bool := d.ok && SeqAt.shaped d.py
/-- what may be shown -/
def D.shw (d : D) : Bool := d.ok && d.py.showable && decide (d.py.depth ≤ 64) && decide (d.py.shown.length ≤ sizeLine)

def D.truth : D → Option Bool
  | .non => some false
  | .bl b => some b
  | .int i => some (i != 0)
  | .str x => if x.length ≤ sizeLine then some ((x.length : Int) != 0) else none
  | .lst xs => some (!xs.isEmpty)
  | .tup xs => some (!xs.isEmpty)
  | _ => none

/-- two flat values of one kind -/
def flat2 : D → D → Bool
  | .int _, .int _ => true
  | .bl _, .bl _ => true
  | .str _, .str _ => true
  | _, _ => false
def isNon : D → Bool
  | .non => true
  | _ => false

def cutD (xs : List D) (lo hi : Option Int) : List D := (xs.drop (HT.sIx xs.length 0 lo)).take (HT.sIx xs.length xs.length hi - HT.sIx xs.length 0 lo)

/-! ### types and keys -/
/-- the name of a value's type -/
def D.tyn : D → Option String
  | .non => some "NoneType"
  | .bl _ => some "bool"
  | .int _ => some "int"
  | .str _ => some "str"
  | .lst _ => some "list"
  | .tup _ => some "tuple"
  | .dct _ => some "dict"
  | .scr _ _ => some "list"
  | _ => none
def isiB (d : D) (n : String) : Option Bool := d.tyn.bind fun t => kitB t n
def isiA (d : D) : List String → Option Bool
  | [] => some false
  | n :: ns => match isiB d n with
    | some true => some true
    | some false => isiA d ns
    | none => none
def keyD : D → Option Key
  | .int i => some (.inl i)
  | .str x => some (.inr x)
  | _ => none
def valD : List (D × D) → Key → Option D
  | [], _ => none
  | (dk, d) :: r, k => if keyD dk = some k then some d else valD r k
def hasD (kvs : List (D × D)) (k : Key) : Bool := kvs.any fun p => decide (keyD p.1 = some k)
def putDD (kvs : List (D × D)) (k : Key) (d : D) : List (D × D) := if hasD kvs k = true then kvs.map (fun p => if keyD p.1 = some k then (p.1, d) else p) else kvs ++ [(kD k, d)]
def mergeDD (kvs : List (D × D)) (more : List (Key × D)) : List (D × D) := more.foldl (fun acc p => putDD acc p.1 p.2) kvs
/-! ### operators -/
inductive O2 where
  | add | sub | mul | mod | fdiv | pow
  | eq | ne | lt | le | gt | ge | isin | notin | is | isnot
  | ix
def seqOf : D → Option (List D)
  | .lst xs => some xs
  | .tup xs => some xs
  | _ => none
def eqD (a b : D) : Bool := PyData.eqv a.py b.py
def inD (x : D) (xs : List D) : Bool := xs.any fun y => eqD y x
/-- plain flat values -/
def D.pf : D → Bool
  | .non | .bl _ | .int _ | .str _ => true
  | _ => false
/-- two lists of unlike lengths -/
def lenNe : D → D → Prop
  | .lst xs, .lst ys => xs.length ≠ ys.length
  | _, _ => False
def eqOk (a b : D) : Prop := (a.pf = true ∧ b.pf = true) ∨ (a.cmp = true ∧ b.cmp = true) ∨ lenNe a b
def inOk (a : D) (xs : List D) : Prop := (a.pf = true ∧ xs.all D.pf = true) ∨ (a.cmp = true ∧ (D.lst xs).cmp = true)
def semEq (neg : Bool) (a b : D) (Q : R → Prop) : Prop := eqOk a b ∧ Q (.fz (.bl (if neg then !eqD a b else eqD a b)))
def semIn (W : Program × World) (neg : Bool) (a b : D) (Q : R → Prop) : Prop :=
  match b with
  | .lst xs => inOk a xs ∧ Q (.fz (.bl (if neg then !inD a xs else inD a xs)))
  | .tup xs => inOk a xs ∧ Q (.fz (.bl (if neg then !inD a xs else inD a xs)))
  | .str y => match a with
    | .str x => Q (.fz (.bl (if neg then !(!(Builtin.Str.occurrences y x 0 y.length 1).isEmpty) else !(Builtin.Str.occurrences y x 0 y.length 1).isEmpty)))
    | _ => False
  | .dcn W' kvs => match a with
    | .tup xs => W' = W ∧ ∃ k, (D.tup xs).nk = some k ∧ k.depth ≤ 8 ∧ Q (.fz (.bl (if neg then !(kvs.any fun p => decide (p.1 = k)) else kvs.any fun p => decide (p.1 = k))))
    | _ => False
  | _ => False
def semCmp (p : Int → Int → Bool) (a b : D) (Q : R → Prop) : Prop :=
  match a, b with
  | .int i, .int j => Q (.fz (.bl (p i j)))
  | _, _ => False
def sem2 (W : Program × World) (o : O2) (a b : D) (Q : R → Prop) : Prop :=
  match o with
  | .add => match a, b with
    | .int i, .int j => Q (.fz (.int (i + j)))
    | .str x, .str y => x.length + y.length ≤ sizeLine ∧ Q (.fz (.str (x ++ y)))
    | .lst xs, .lst ys => xs.length + ys.length ≤ sizeLine ∧ Q (.ow (.lst (xs ++ ys)))
    | .tup xs, .tup ys => xs.length + ys.length ≤ sizeLine ∧ Q (.fz (.tup (xs ++ ys)))
    | _, _ => False
  | .sub => match a, b with
    | .int i, .int j => Q (.fz (.int (i - j)))
    | _, _ => False
  | .mul => match a, b with
    | .int i, .int j => CMul i j ∧ Q (.fz (.int (i * j)))
    | .lst xs, .int k => -(2 ^ 63) ≤ k ∧ k < 2 ^ 63 ∧ xs.length * k.toNat ≤ sizeLine ∧ Q (.ow (.lst (List.replicate k.toNat xs).flatten))
    | _, _ => False
  | .mod => match a, b with
    | .int i, .int j => 0 < j ∧ Q (.fz (.int (i % j)))
    | _, _ => False
  | .fdiv => match a, b with
    | .int i, .int j => CDiv i j ∧ Q (.fz (.int (i / j)))
    | _, _ => False
  | .pow => match a, b with
    | .int i, .int j => CPow i j ∧ Q (.fz (.int (i ^ j.toNat)))
    | _, _ => False
  | .eq => semEq false a b Q
  | .ne => semEq true a b Q
  | .lt => semCmp (fun i j => decide (i < j)) a b Q
  | .le => semCmp (fun i j => decide (i ≤ j)) a b Q
  | .gt => semCmp (fun i j => decide (j < i)) a b Q
  | .ge => semCmp (fun i j => decide (j ≤ i)) a b Q
  | .isin => semIn W false a b Q
  | .notin => semIn W true a b Q
  | .is => match a, b with
    | .bl x, .bl y => Q (.fz (.bl (decide (x = y))))
    | a, .non => a.ok = true ∧ Q (.fz (.bl (isNon a)))
    | _, _ => False
  | .isnot => match a, b with
    | .bl x, .bl y => Q (.fz (.bl (!decide (x = y))))
    | a, .non => a.ok = true ∧ Q (.fz (.bl (!isNon a)))
    | _, _ => False
  | .ix => match a, b with
    | .lst xs, .int i => ∃ d, atI xs i = some d ∧ Q (.fz d)
    | .tup xs, .int i => ∃ d, atI xs i = some d ∧ Q (.fz d)
    | .scr _ ns, .int i => ∃ n, atI ns i = some n ∧ Q (.fz (.int n))
    | .dct kvs, .str x => ∃ d, valD kvs (.inr x) = some d ∧ Q (.fz d)
    | .dct kvs, .int x => ∃ d, valD kvs (.inl x) = some d ∧ Q (.fz d)
    | .str x, .int i => x.length ≤ sizeLine ∧ ∃ c, atI x.cps.toList i = some c ∧ Q (.fz (.str ⟨#[c]⟩))
    | _, _ => False

inductive O1 where
  | neg
def sem1 (o : O1) (a : D) (Q : R → Prop) : Prop :=
  match o with
  | .neg => match a with
    | .int i => Q (.fz (.int (-i)))
    | _ => False

/-! ### built-in calls, by name -/
inductive B1 where
  | len | abs | int | str | list | tuple | sorted | repr | all | any | sum | isi | dict
def semB (b : B1) (ds : List D) (Q : R → Prop) : Prop :=
  match b with
  | .len => match ds with
    | [.lst xs] => Q (.fz (.int xs.length))
    | [.tup xs] => Q (.fz (.int xs.length))
    | [.str x] => x.length ≤ sizeLine ∧ Q (.fz (.int x.length))
    | [.dct xs] => Q (.fz (.int xs.length))
    | [.scr _ xs] => Q (.fz (.int xs.length))
    | _ => False
  | .abs => match ds with
    | [.int i] => Q (.fz (.int (if i < 0 then -i else i)))
    | _ => False
  | .int => match ds with
    | [.int i] => Q (.fz (.int i))
    | [.bl b] => Q (.fz (.int (if b then 1 else 0)))
    | _ => False
  | .str => match ds with
    | [.int i] => i.natAbs.log2 < 1920 ∧ Q (.fz (.str (toString i)))
    | _ => False
  | .list => match ds with
    | [.lst xs] => Q (.ow (.lst xs))
    | [.tup xs] => Q (.ow (.lst xs))
    | _ => False
  | .tuple => match ds with
    | [.lst xs] => Q (.fz (.tup xs))
    | [.tup xs] => Q (.fz (.tup xs))
    | _ => False
  | .sorted => match ds with
    | [.lst xs] => (∃ ss : List Str, xs = ss.map D.str ∧ ss.length < 64 ∧ ∀ ys : List Str, ys.Perm ss → sortedS ys = true → Q (.ow (.lst (ys.map D.str)))) ∨
        ∃ ns : List Int, xs = ns.map D.int ∧ ns.length < 64 ∧ ∀ ys : List Int, ys.Perm ns → ys.Pairwise (· ≤ ·) → Q (.ow (.lst (ys.map D.int)))
    | [.dct kvs] => ∃ ks : List Str, kvs.map (·.1) = ks.map D.str ∧ ks.length < 64 ∧ ∀ ys : List Str, ys.Perm ks → sortedS ys = true → Q (.ow (.lst (ys.map D.str)))
    | _ => False
  | .repr => match ds with
    | [d] => d.shw = true ∧ Q (.fz (.str d.py.shown))
    | _ => False
  | .all => match ds with
    | [.lst xs] => ∃ bs : List Bool, xs = bs.map D.bl ∧ Q (.fz (.bl (bs.all id)))
    | _ => False
  | .any => match ds with
    | [.lst xs] => ∃ bs : List Bool, xs = bs.map D.bl ∧ Q (.fz (.bl (bs.any id)))
    | _ => False
  | .sum => match ds with
    | [.lst xs] => ∃ ns : List Int, xs = ns.map D.int ∧ Q (.fz (.int ns.sum))
    | _ => False
  | .isi => match ds with
    | [d, .opq (.ty n)] => ∃ b, isiB d n = some b ∧ Q (.fz (.bl b))
    | [d, .tup us] => ∃ (ns : List String) (b : Bool), us = ns.map (fun n => D.opq (.ty n)) ∧ d.tyn.isSome = true ∧ isiA d ns = some b ∧ Q (.fz (.bl b))
    | _ => False
  | .dict => match ds with
    | [.lst ps] => ∃ kvs : List (Key × D), ps = kvs.map (fun p => D.tup [kD p.1, p.2]) ∧ Q (.ow (.dct (mergeDD [] kvs)))
    | [.dct kvs] => Q (.ow (.dct kvs))
    | _ => False

/-! ### methods that change the own list in a slot -/
inductive M2 where
  | append | extend | pop | popAt | insert
def semM (m : M2) (d : D) (ds : List D) (Q : D → D → Prop) : Prop :=
  match m with
  | .append => match d, ds with
    | .lst xs, [y] => xs.length < sizeLine ∧ Q (.lst (xs ++ [y])) .non
    | _, _ => False
  | .extend => match d, ds with
    | .lst xs, [.lst ys] => xs.length + ys.length ≤ sizeLine ∧ Q (.lst (xs ++ ys)) .non
    | _, _ => False
  | .pop => match d, ds with
    | .lst xs, [] => ∃ y, xs[xs.length - 1]? = some y ∧ Q (.lst xs.dropLast) y
    | _, _ => False
  | .popAt => match d, ds with
    | .lst xs, [.int i] => -(2 ^ 63) ≤ i ∧ i < 2 ^ 63 ∧ ∃ k y, seqIndex? i xs.length = some k ∧ xs[k]? = some y ∧ Q (.lst (xs.eraseIdx k)) y
    | _, _ => False
  | .insert => match d, ds with
    | .lst xs, [.int i, y] => xs.length < sizeLine ∧ 0 ≤ i ∧ i < 2 ^ 63 ∧ Q (.lst (xs.take i.toNat ++ [y] ++ xs.drop i.toNat)) .non
    | _, _ => False

/-! ### methods that change nothing -/
inductive N1 where
  | split
def semN (m : N1) (d : D) (ds : List D) (Q : R → Prop) : Prop :=
  match m with
  | .split => match d, ds with
    | .str a, [.str b] => (b.length == 0) = false ∧ a.length + 2 ≤ sizeLine ∧ Q (.ow (.lst ((Txt.split a b).map D.str)))
    | _, _ => False

/-! ### the language -/
inductive CG where
  | name (i : Nat)
  | tup (gs : List Nat)
mutual
inductive CE where
  | var (i : Nat)
  | con (d : D)
  | op2 (o : O2) (a b : CE)
  | op1 (o : O1) (a : CE)
  | glo (k : Nat)
  | and (a b : CE)
  | or (a b : CE)
  | not (a : CE)
  | ifx (c : CT) (a b : CE)
  | lst (es : CA)
  | tup (es : CA)
  | slc (a : CE) (lo hi : CO)
  | bi (b : B1) (es : CA)
  | mut (m : M2) (i : Nat) (es : CA)
  | call (k : Nat) (es : CA)
  | meth (m : N1) (a : CE) (e : CE)
  | sset (e : CE)
  | dn1 (k v : CE)
  | tyc (n : String)
  | dk0
  | dk1 (x : Str) (v : CE)
  | upper (a : CE)
  | cnt (a e : CE)
  | compk (own : List Nat) (g : CG) (i : Nat) (c : CC) (e : CE)
  | comp (own : List Nat) (g : CG) (it : CI) (c : CC) (e : CE)
inductive CA where
  | nil
  | cons (e : CE) (es : CA)
inductive CO where
  | none
  | some (e : CE)
inductive CC where
  | none
  | some (c : CT)
inductive CT where
  | cmp (o : O2) (a b : CE)
  | and (a b : CT)
  | or (a b : CT)
  | not (a : CT)
  | val (e : CE)
inductive CI where
  | seq (e : CE)
  | range (es : CA)
  | enum (e : CE)
end
inductive CS where
  | asg (g : CG) (e : CE)
  | par (i j : Nat) (a b : CE)
  | sub (i : Nat) (k e : CE)
  | aug (i : Nat) (o : O2) (e : CE)
  | augS (i : Nat) (k e : CE)
  | dset (i : Nat) (k e : CE)
  | expr (e : CE)
  | ret (e : CE)
  | ite (c : CT) (a b : List CS)
  | for_ (g : CG) (it : CI) (b : List CS)
  | while_ (c : CT) (b : List CS)
  | brk | cont | pass
  | never

/-! ### states -/
def Sta.put (ρ : Sta) (i : Nat) (m : M) : Sta := { ρ with sl := ρ.sl.set i m }
/-- the own list in a slot is not changed any more -/
def frz1 : M → M
  | .ow d => .fz d
  | m => m
def Sta.frz (ρ : Sta) (i : Nat) : Sta := match ρ.sl[i]? with
  | some (.ow d) => ρ.put i (.fz d)
  | _ => ρ
/-- a result that is kept somewhere -/
def keep (r : R) (ρ : Sta) (Q : D → Sta → Prop) : Prop := match r with
  | .fz d => Q d ρ
  | .ow d => Q d ρ
  | .al i => match ρ.sl[i]? with
    | some (.ow d) => Q d (ρ.put i (.fz d))
    | _ => False
/-- an operand: a new list is not changed any more, an own one stands as it is -/
def opd : R → R
  | .ow d => .fz d
  | r => r
def rd (ρ : Sta) (r : R) (Q : D → Prop) : Prop := match r with
  | .fz d => Q d
  | .ow d => Q d
  | .al i => match ρ.sl[i]? with
    | some (.ow d) => Q d
    | _ => False
def rdA (ρ : Sta) : List R → (List D → Prop) → Prop
  | [], Q => Q []
  | r :: rs, Q => rd ρ r fun d => rdA ρ rs fun ds => Q (d :: ds)
def frzA (ρ : Sta) : List R → Sta
  | [] => ρ
  | .al i :: rs => frzA (ρ.frz i) rs
  | _ :: rs => frzA ρ rs
def asgN : List Nat → List D → Sta → Option Sta
  | [], [], ρ => some ρ
  | i :: is, d :: ds, ρ => asgN is ds (ρ.put i (.fz d))
  | _, _, _ => none
def asgG (g : CG) (d : D) (ρ : Sta) (Q : Sta → Prop) : Prop := match g with
  | .name i => Q (ρ.put i (.fz d))
  | .tup is => match d with
    | .tup ds => ∃ ρ', asgN is ds ρ = some ρ' ∧ Q ρ'
    | _ => False
def wipes (ρ : Sta) : List Nat → Sta
  | [] => ρ
  | i :: is => (wipes ρ is).put i .un
def backs (ρ₀ ρ : Sta) : List Nat → Sta
  | [] => ρ
  | i :: is => (backs ρ₀ ρ is).put i (match ρ₀.sl[i]? with
    | some (.fz d) => .fz d
    | _ => .un)
/-- the turns of a comprehension -/
def compD (step : D → Sta → (Option D → Sta → Prop) → Prop) : List D → List D → Sta → (List D → Sta → Prop) → Prop
  | [], acc, ρ, Q => Q acc ρ
  | d :: ds, acc, ρ, Q => acc.length < sizeLine ∧ step d ρ fun o ρ' => compD step ds (acc ++ o.toList) ρ' Q

structure En where
  nx : Sta → Prop
  rt : R → Sta → Prop
  bk : Sta → Prop
  ct : Sta → Prop
def forD (step : D → Sta → En → Prop) : List D → Sta → En → Prop
  | [], ρ, E => E.nx ρ
  | d :: ds, ρ, E => step d ρ { nx := fun ρ' => forD step ds ρ' E, ct := fun ρ' => forD step ds ρ' E, bk := E.nx, rt := E.rt }
def whileD (c : Sta → (Bool → Sta → Prop) → Prop) (b : Sta → En → Prop) (ρ : Sta) (E : En) : Prop :=
  ∃ I : Nat → Sta → Prop, (∃ m, I m ρ) ∧ ∀ m ρ, I m ρ → c ρ fun k ρ' => if k = true then b ρ' { nx := fun ρ2 => ∃ m', m' < m ∧ I m' ρ2, ct := fun ρ2 => ∃ m', m' < m ∧ I m' ρ2, bk := E.nx, rt := E.rt } else E.nx ρ'

/-- what a def promises, over data: the bag, the arguments, what is wanted of its answer -/
abbrev DSp := Option Bag → List D → (R → Prop) → Prop
structure Tb where
  W : Program × World
  fn : Nat → DSp
  gl : Nat → D

def putN (kvs : List (NestedKey × D)) (k : NestedKey) (d : D) : List (NestedKey × D) := if (kvs.any fun p => decide (p.1 = k)) then kvs.map (fun p => if p.1 = k then (p.1, d) else p) else kvs ++ [(k, d)]
def rangeD (lo hi : Int) : List D := (List.range (hi - lo).toNat).map fun i => .int (lo + (i : Nat))
def enumD (ds : List D) : List D := ds.zipIdx.map fun p => .tup [.int (p.2 : Nat), p.1]

mutual
def evE (T : Tb) : CE → Sta → (R → Sta → Prop) → Prop
  | .var i, ρ, Q => match ρ.sl[i]? with
    | some (.fz d) => Q (.fz d) ρ
    | some (.ow _) => Q (.al i) ρ
    | _ => False
  | .con d, ρ, Q => Q (.fz d) ρ
  | .op2 o a b, ρ, Q => evE T a ρ fun r ρ1 => evE T b ρ1 fun s ρ2 => rd ρ2 r fun x => rd ρ2 s fun y => sem2 T.W o x y fun z => Q z ρ2
  | .op1 o a, ρ, Q => evE T a ρ fun r ρ1 => rd ρ1 r fun x => sem1 o x fun z => Q z ρ1
  | .glo k, ρ, Q => Q (.fz (T.gl k)) ρ
  | .and a b, ρ, Q => evE T a ρ fun r ρ1 => match r with
    | .fz (.bl k) => if k = true then evE T b ρ1 Q else Q (.fz (.bl false)) ρ1
    | _ => False
  | .or a b, ρ, Q => evE T a ρ fun r ρ1 => match r with
    | .fz (.bl k) => if k = true then Q (.fz (.bl true)) ρ1 else evE T b ρ1 Q
    | _ => False
  | .not a, ρ, Q => evE T a ρ fun r ρ1 => match r with
    | .fz (.bl k) => Q (.fz (.bl (!k))) ρ1
    | _ => False
  | .ifx c a b, ρ, Q => evT T c ρ fun k ρ1 => if k = true then evE T a ρ1 Q else evE T b ρ1 Q
  | .lst es, ρ, Q => evK T es ρ fun ds ρ1 => ds.length ≤ sizeLine ∧ Q (.ow (.lst ds)) ρ1
  | .tup es, ρ, Q => evK T es ρ fun ds ρ1 => ds.length ≤ sizeLine ∧ Q (.fz (.tup ds)) ρ1
  | .slc a lo hi, ρ, Q => evE T a ρ fun r ρ1 => evO T lo ρ1 fun l ρ2 => evO T hi ρ2 fun h ρ3 => rd ρ3 r fun x => match x with
    | .lst xs => Q (.ow (.lst (cutD xs l h))) ρ3
    | .tup xs => Q (.fz (.tup (cutD xs l h))) ρ3
    | .scr _ ns => Q (.ow (.lst (cutD (ns.map D.int) l h))) ρ3
    | .str z => z.length ≤ sizeLine ∧ Q (.fz (.str (cutS z l h))) ρ3
    | _ => False
  | .bi b es, ρ, Q => evA T es ρ fun rs ρ1 => rdA ρ1 rs fun ds => semB b ds fun z => Q z ρ1
  | .mut m i es, ρ, Q => (∃ xs, ρ.sl[i]? = some (.ow (.lst xs))) ∧ evK T es ρ fun ds ρ1 => match ρ1.sl[i]? with
    | some (.ow d) => semM m d ds fun d' z => Q (.fz z) (ρ1.put i (.ow d'))
    | _ => False
  | .call k es, ρ, Q => evA T es ρ fun rs ρ1 => rdA ρ1 rs fun ds => T.fn k ρ1.bag ds fun z => match z with
    | .fz d => if d.flat = true then Q (.fz d) ρ1 else Q (.fz d) (frzA ρ1 rs)
    | .ow d => Q (.ow d) (frzA ρ1 rs)
    | .al _ => True
  | .meth m a e, ρ, Q => evE T a ρ fun r ρ1 => match r with
    | .fz (.str x) => evE T e ρ1 fun s ρ2 => rd ρ2 s fun y => semN m (.str x) [y] fun z => Q z ρ2
    | _ => False
  | .sset e, ρ, Q => evE T e ρ fun r ρ1 => rd ρ1 r fun x => match x with
    | .lst xs => ∃ ns : List Int, xs = ns.map D.int ∧ ns.length < 64 ∧ ∀ ys : List Int, ys.Pairwise (· < ·) → (∀ k, k ∈ ys ↔ k ∈ ns) → Q (.ow (.lst (ys.map D.int))) ρ1
    | _ => False
  | .dn1 k v, ρ, Q => evE T k ρ fun r ρ1 => keep r ρ1 fun x ρ2 => evE T v ρ2 fun s ρ3 => keep s ρ3 fun y ρ4 => match x with
    | .tup xs => ∃ n, (D.tup xs).nk = some n ∧ n.depth ≤ 8 ∧ Q (.ow (.dcn T.W [(n, y)])) ρ4
    | _ => False
  | .tyc n, ρ, Q => Q (.fz (.opq (.ty n))) ρ
  | .dk0, ρ, Q => Q (.ow (.dct [])) ρ
  | .dk1 x v, ρ, Q => evE T v ρ fun s ρ1 => keep s ρ1 fun y ρ2 => Q (.ow (.dct [(.str x, y)])) ρ2
  | .upper a, ρ, Q => evE T a ρ fun r ρ1 => rd ρ1 r fun x => match x with
    | .str z => z.length ≤ 5592405 ∧ Q (.fz (.str (Txt.upper z))) ρ1
    | _ => False
  | .cnt a e, ρ, Q => evE T a ρ fun r ρ1 => (rd ρ1 r fun x => ∃ xs, x = .lst xs) ∧ evE T e ρ1 fun s ρ2 => rd ρ2 (opd r) fun x => rd ρ2 s fun y => match x, y with
    | .lst xs, .str z => ∃ ss : List Str, xs = ss.map D.str ∧ Q (.fz (.int (ss.countP fun w => decide (w = z) : Nat))) ρ2
    | _, _ => False
  | .compk own g i c e, ρ, Q => match ρ.sl[i]? with
    | some (.fz (.dct kvs)) => compD (fun d ρ2 k => asgG g d ρ2 fun ρ3 => evC T c ρ3 fun b ρ4 =>
      if b = true then evE T e ρ4 fun r ρ5 => keep r ρ5 fun x ρ6 => k (some x) (wipes ρ6 own) else k none (wipes ρ4 own)) (kvs.map (·.1)) [] (wipes ρ own) fun acc ρ7 => Q (.ow (.lst acc)) (backs ρ ρ7 own)
    | _ => False
  | .comp own g it c e, ρ, Q => evI T it ρ fun ds ρ1 => compD (fun d ρ2 k => asgG g d ρ2 fun ρ3 => evC T c ρ3 fun b ρ4 =>
      if b = true then evE T e ρ4 fun r ρ5 => keep r ρ5 fun x ρ6 => k (some x) (wipes ρ6 own) else k none (wipes ρ4 own)) ds [] (wipes ρ1 own) fun acc ρ7 => Q (.ow (.lst acc)) (backs ρ1 ρ7 own)
/-- operands -/
def evA (T : Tb) : CA → Sta → (List R → Sta → Prop) → Prop
  | .nil, ρ, Q => Q [] ρ
  | .cons e es, ρ, Q => evE T e ρ fun r ρ1 => evA T es ρ1 fun rs ρ2 => Q (opd r :: rs) ρ2
/-- values that are kept -/
def evK (T : Tb) : CA → Sta → (List D → Sta → Prop) → Prop
  | .nil, ρ, Q => Q [] ρ
  | .cons e es, ρ, Q => evE T e ρ fun r ρ1 => keep r ρ1 fun d ρ2 => evK T es ρ2 fun ds ρ3 => Q (d :: ds) ρ3
def evO (T : Tb) : CO → Sta → (Option Int → Sta → Prop) → Prop
  | .none, ρ, Q => Q none ρ
  | .some e, ρ, Q => evE T e ρ fun r ρ1 => match r with
    | .fz (.int i) => Q (some i) ρ1
    | _ => False
def evC (T : Tb) : CC → Sta → (Bool → Sta → Prop) → Prop
  | .none, ρ, Q => Q true ρ
  | .some c, ρ, Q => evT T c ρ Q
def evT (T : Tb) : CT → Sta → (Bool → Sta → Prop) → Prop
  | .cmp o a b, ρ, Q => evE T a ρ fun r ρ1 => evE T b ρ1 fun s ρ2 => rd ρ2 r fun x => rd ρ2 s fun y => sem2 T.W o x y fun z => match z with
    | .fz (.bl k) => Q k ρ2
    | _ => False
  | .and a b, ρ, Q => evT T a ρ fun k ρ1 => if k = true then evT T b ρ1 Q else Q false ρ1
  | .or a b, ρ, Q => evT T a ρ fun k ρ1 => if k = true then Q true ρ1 else evT T b ρ1 Q
  | .not a, ρ, Q => evT T a ρ fun k ρ1 => Q (!k) ρ1
  | .val e, ρ, Q => evE T e ρ fun r ρ1 => rd ρ1 r fun d => ∃ k, d.truth = some k ∧ Q k ρ1
def evI (T : Tb) : CI → Sta → (List D → Sta → Prop) → Prop
  | .seq e, ρ, Q => evE T e ρ fun r ρ1 => keep r ρ1 fun d ρ2 => match d with
    | .lst ds => Q ds ρ2
    | .tup ds => Q ds ρ2
    | _ => False
  | .range es, ρ, Q => evA T es ρ fun rs ρ1 => match rs with
    | [.fz (.int j)] => -(2 ^ 62) ≤ j ∧ j < 2 ^ 62 ∧ Q (rangeD 0 j) ρ1
    | [.fz (.int i), .fz (.int j)] => (-(2 ^ 62) ≤ i ∧ i < 2 ^ 62 ∧ -(2 ^ 62) ≤ j ∧ j < 2 ^ 62) ∧ Q (rangeD i j) ρ1
    | _ => False
  | .enum e, ρ, Q => evE T e ρ fun r ρ1 => keep r ρ1 fun d ρ2 => match d with
    | .lst ds => Q (enumD ds) ρ2
    | _ => False
end

mutual
def evS (T : Tb) : CS → Sta → En → Prop
  | .asg g e, ρ, E => evE T e ρ fun r ρ1 => match g, r with
    | .name i, .ow d => E.nx (ρ1.put i (.ow d))
    | .name i, .fz d => E.nx (ρ1.put i (.fz d))
    | _, _ => keep r ρ1 fun d ρ2 => asgG g d ρ2 E.nx
  | .par i j a b, ρ, E => evE T a ρ fun r ρ1 => evE T b ρ1 fun s ρ2 => match r, s with
    | .ow d, .ow e => E.nx ((ρ2.put i (.ow d)).put j (.ow e))
    | .ow d, .fz e => E.nx ((ρ2.put i (.ow d)).put j (.fz e))
    | .fz d, .ow e => E.nx ((ρ2.put i (.fz d)).put j (.ow e))
    | .fz d, .fz e => E.nx ((ρ2.put i (.fz d)).put j (.fz e))
    | _, _ => False
  | .sub i k e, ρ, E => evE T e ρ fun r ρ1 => keep r ρ1 fun d ρ2 => (∃ x, ρ2.sl[i]? = some (.ow x)) ∧ evE T k ρ2 fun s ρ3 => match ρ3.sl[i]?, s with
    | some (.ow (.lst xs)), .fz (.int n) => ∃ j, ixN xs.length n = some j ∧ E.nx (ρ3.put i (.ow (.lst (xs.set j d))))
    | _, _ => False
  | .aug i o e, ρ, E => (∃ d, ρ.sl[i]? = some (.fz d)) ∧ evE T e ρ fun r ρ1 => match ρ.sl[i]?, r with
    | some (.fz (.int x)), .fz (.int y) => (match o with
      | .add => E.nx (ρ1.put i (.fz (.int (x + y))))
      | .sub => E.nx (ρ1.put i (.fz (.int (x - y))))
      | _ => False)
    | _, _ => False
  | .augS i k e, ρ, E => (∃ x, ρ.sl[i]? = some (.ow (.lst x))) ∧ evE T k ρ fun r ρ1 => match ρ1.sl[i]?, r with
    | some (.ow (.lst xs)), .fz (.int n) => ∃ j x, ixN xs.length n = some j ∧ xs[j]? = some (.int x) ∧ evE T e ρ1 fun s ρ2 => match ρ2.sl[i]?, s with
      | some (.ow (.lst ys)), .fz (.int y) => ys.length = xs.length ∧ E.nx (ρ2.put i (.ow (.lst (ys.set j (.int (x + y))))))
      | _, _ => False
    | _, _ => False
  | .dset i k e, ρ, E => evE T e ρ fun r ρ1 => keep r ρ1 fun d ρ2 => (∃ x, ρ2.sl[i]? = some (.ow x)) ∧ evE T k ρ2 fun s ρ3 => match ρ3.sl[i]?, s with
    | some (.ow (.dcn W kvs)), .fz (.tup ks) => W = T.W ∧ kvs.length < sizeLine ∧ ∃ n, (D.tup ks).nk = some n ∧ n.depth ≤ 8 ∧ E.nx (ρ3.put i (.ow (.dcn W (putN kvs n d))))
    | some (.ow (.dct kvs)), .fz (.str x) => kvs.length < sizeLine ∧ E.nx (ρ3.put i (.ow (.dct (putDD kvs (.inr x) d))))
    | _, _ => False
  | .expr e, ρ, E => evE T e ρ fun _ ρ1 => E.nx ρ1
  | .ret e, ρ, E => evE T e ρ fun r ρ1 => E.rt r ρ1
  | .ite c a b, ρ, E => evT T c ρ fun k ρ1 => if k = true then evB T a ρ1 E else evB T b ρ1 E
  | .for_ g it b, ρ, E => evI T it ρ fun ds ρ1 => forD (fun d ρ2 E2 => asgG g d ρ2 fun ρ3 => evB T b ρ3 E2) ds ρ1 E
  | .while_ c b, ρ, E => whileD (evT T c) (evB T b) ρ E
  | .brk, ρ, E => E.bk ρ
  | .cont, ρ, E => E.ct ρ
  | .pass, ρ, E => E.nx ρ
  | .never, _, _ => False
def evB (T : Tb) : List CS → Sta → En → Prop
  | [], ρ, E => E.nx ρ
  | s :: ss, ρ, E => evS T s ρ { E with nx := fun ρ1 => evB T ss ρ1 E }
end
end DI

set_option Elab.async false
set_option linter.all false
set_option autoImplicit false
set_option maxRecDepth 100000
set_option maxHeartbeats 1000000
/-! DI0b: how slots change. -/
namespace DI
open PySem PySem.Spec PyProof.Rows L2
section
variable {F : Fr} {G H : Hp} {σ : L2.St} {ρ : Sta}
theorem put_sl (ρ : Sta) (i : Nat) (m : M) : (ρ.put i m).sl = ρ.sl.set i m := rfl
theorem put_bag (ρ : Sta) (i : Nat) (m : M) : (ρ.put i m).bag = ρ.bag := rfl
theorem put_at {ρ : Sta} {i j : Nat} {m m' : M} (h : (ρ.put i m).sl[j]? = some m') : (j = i ∧ m = m') ∨ (j ≠ i ∧ ρ.sl[j]? = some m') := by
  rw [put_sl] at h
  by_cases e : j = i
  · subst e
    by_cases hl : j < ρ.sl.length
    · rw [List.getElem?_set_self hl] at h; exact .inl ⟨rfl, Option.some.inj h⟩
    · rw [List.getElem?_eq_none (by simpa using hl)] at h; cases h
  · rw [List.getElem?_set_ne (Ne.symm e)] at h
    exact .inr ⟨e, h⟩
theorem set_at {σ : L2.St} {i j : Nat} {v : Option V} (h : j ≠ i) : (σ.set i v)[j]? = σ[j]? := List.getElem?_set_ne (Ne.symm h)
theorem set_self {σ : L2.St} {i : Nat} {v : Option V} (h : i < σ.length) : (σ.set i v)[i]? = some v := List.getElem?_set_self h

/-- a slot takes a value that is not changed any more -/
theorem Rl.put_fz0 {i : Nat} {v : V} {d : D} (r : Rl F G H σ ρ) (hi : i < σ.length) (h : Rp F.K G v d) : Rl F G H (σ.set i (some v)) (ρ.put i (.fz d)) := by
  refine ⟨r.sub, r.fr, by rw [put_sl, List.length_set, List.length_set]; exact r.len, fun j e q => ?_, fun j e q => ?_, fun j k e f a q1 q2 s1 s2 => ?_, r.bg, fun b j e q1 q2 => ?_⟩
  · rcases put_at q with ⟨ej, z0⟩ | ⟨ne, q⟩
    · subst ej; cases z0; exact ⟨v, set_self hi, h⟩
    · rw [set_at ne]; exact r.fz j e q
  · rcases put_at q with ⟨ej, z0⟩ | ⟨ne, q⟩
    · cases z0
    · rw [set_at ne]; exact r.ow j e q
  · rcases put_at q1 with ⟨ej, z0⟩ | ⟨n1, q1⟩
    · cases z0
    · rcases put_at q2 with ⟨ej, z0⟩ | ⟨n2, q2⟩
      · cases z0
      · rw [set_at n1] at s1; rw [set_at n2] at s2; exact r.ap j k e f a q1 q2 s1 s2
  · rcases put_at q2 with ⟨ej, z0⟩ | ⟨n2, q2⟩
    · cases z0
    · rw [set_at n2]; exact r.bo b j e q1 q2
theorem Rl.put_ow0 {i : Nat} {a : Addr} {d : D} (r : Rl F G H σ ρ) (hi : i < σ.length) (n : Nw F G H σ ρ a d) : Rl F G H (σ.set i (some (.ref a))) (ρ.put i (.ow d)) := by
  refine ⟨r.sub, r.fr, by rw [put_sl, List.length_set, List.length_set]; exact r.len, fun j e q => ?_, fun j e q => ?_, fun j k e f b q1 q2 s1 s2 => ?_, r.bg, fun b j e q1 q2 => ?_⟩
  · rcases put_at q with ⟨ej, z0⟩ | ⟨ne, q⟩
    · cases z0
    · rw [set_at ne]; exact r.fz j e q
  · rcases put_at q with ⟨ej, z0⟩ | ⟨ne, q⟩
    · subst ej; cases z0; exact ⟨a, set_self hi, n.np, n.gn, n.con⟩
    · rw [set_at ne]; exact r.ow j e q
  · rcases put_at q1 with ⟨ej, z0⟩ | ⟨n1, p1⟩
    · rcases put_at q2 with ⟨ek, z1⟩ | ⟨n2, p2⟩
      · exact ej.trans ek.symm
      · subst ej; rw [set_self hi] at s1; cases s1; rw [set_at n2] at s2; exact absurd s2 (n.sl k f p2)
    · rcases put_at q2 with ⟨ek, z1⟩ | ⟨n2, q2⟩
      · subst ek; rw [set_self hi] at s2; cases s2; rw [set_at n1] at s1; exact absurd s1 (n.sl j e p1)
      · rw [set_at n1] at s1; rw [set_at n2] at s2; exact r.ap j k e f b p1 q2 s1 s2
  · rcases put_at q2 with ⟨ej, z0⟩ | ⟨n2, q2⟩
    · subst ej; rw [set_self hi]; intro z; exact n.bg b q1 (by injection z with z; injection z with z; injection z with z; exact z.symm)
    · rw [set_at n2]; exact r.bo b j e q1 q2
theorem put_far {ρ : Sta} {i : Nat} {m : M} (h : ρ.sl.length ≤ i) : ρ.put i m = ρ := by
  unfold Sta.put
  rw [List.set_eq_of_length_le h]
theorem Rl.put_fz {i : Nat} {v : V} {d : D} (r : Rl F G H σ ρ) (h : Rp F.K G v d) : Rl F G H (σ.set i (some v)) (ρ.put i (.fz d)) := by
  by_cases hi : i < σ.length
  · exact r.put_fz0 hi h
  · have hl := r.len
    rw [List.set_eq_of_length_le (by omega), put_far (by omega)]
    exact r
theorem Rl.put_ow {i : Nat} {a : Addr} {d : D} (r : Rl F G H σ ρ) (n : Nw F G H σ ρ a d) : Rl F G H (σ.set i (some (.ref a))) (ρ.put i (.ow d)) := by
  by_cases hi : i < σ.length
  · exact r.put_ow0 hi n
  · have hl := r.len
    rw [List.set_eq_of_length_le (by omega), put_far (by omega)]
    exact r
/-- a slot is forgotten -/
theorem Rl.put_un {i : Nat} (r : Rl F G H σ ρ) : Rl F G H σ (ρ.put i .un) := by
  refine ⟨r.sub, r.fr, by rw [put_sl, List.length_set]; exact r.len, fun j e q => ?_, fun j e q => ?_, fun j k e f b q1 q2 s1 s2 => ?_, r.bg, fun b j e q1 q2 => ?_⟩
  · rcases put_at q with ⟨ej, z0⟩ | ⟨ne, q⟩
    · cases z0
    · exact r.fz j e q
  · rcases put_at q with ⟨ej, z0⟩ | ⟨ne, q⟩
    · cases z0
    · exact r.ow j e q
  · rcases put_at q1 with ⟨ej, z0⟩ | ⟨n1, q1⟩
    · cases z0
    · rcases put_at q2 with ⟨ej, z0⟩ | ⟨n2, q2⟩
      · cases z0
      · exact r.ap j k e f b q1 q2 s1 s2
  · rcases put_at q2 with ⟨ej, z0⟩ | ⟨n2, q2⟩
    · cases z0
    · exact r.bo b j e q1 q2
theorem set_same {σ : L2.St} {i : Nat} {v : Option V} (h : σ[i]? = some v) : σ.set i v = σ := by
  apply List.ext_getElem?
  intro j
  by_cases e : j = i
  · subst e
    have hl : j < σ.length := by
      rcases Nat.lt_or_ge j σ.length with q | q
      · exact q
      · rw [List.getElem?_eq_none q] at h; cases h
    rw [List.getElem?_set_self hl, h]
  · rw [List.getElem?_set_ne (Ne.symm e)]
theorem lt_of {α : Type} {l : List α} {i : Nat} {x : α} (h : l[i]? = some x) : i < l.length := (List.getElem?_eq_some_iff.mp h).1
theorem put_put (ρ : Sta) (i : Nat) (m m' : M) : (ρ.put i m).put i m' = ρ.put i m' := by
  unfold Sta.put
  simp
/-- the own thing of a slot, as a new one -/
theorem Rl.out {i : Nat} {d : D} {v : V} (r : Rl F G H σ ρ) (h : ρ.sl[i]? = some (.ow d)) (hs : σ[i]? = some (some v)) : ∃ a, v = .ref a ∧ Rl F G H σ (ρ.put i .un) ∧ Nw F G H σ (ρ.put i .un) a d := by
  obtain ⟨a, h1, h2, h3, h4⟩ := r.ow i d h
  rw [h1] at hs
  cases hs
  refine ⟨a, rfl, r.put_un, ⟨h2, h3, h4, fun j e q z => ?_, fun b e z => ?_⟩⟩
  · rcases put_at q with ⟨ej, z0⟩ | ⟨ne, q⟩
    · cases z0
    · exact ne (r.ap j i e d a q h z h1)
  · exact r.bo b i d e h (by rw [z]; exact h1)
/-- the own thing of a slot is not changed any more -/
theorem Rl.frzS {i : Nat} {d : D} {v : V} (r : Rl F G H σ ρ) (h : ρ.sl[i]? = some (.ow d)) (hs : σ[i]? = some (some v)) : ∃ G', Same G G' ∧ Rl F G' H σ (ρ.put i (.fz d)) ∧ Rp F.K G' v d := by
  obtain ⟨a, rfl, r1, n⟩ := r.out h hs
  obtain ⟨G', g, r2, p⟩ := r1.keepN n
  refine ⟨G', g, ?_, p⟩
  have q := r2.put_fz (i := i) p
  rw [set_same hs, put_put] at q
  exact q
/-- the own thing of a slot is changed -/
theorem Rl.mut {i : Nat} {d d' : D} {a : Addr} {o : HO} (r : Rl F G H σ ρ) (h : ρ.sl[i]? = some (.ow d)) (hs : σ[i]? = some (some (.ref a))) (c : Con F.K G (upd H a o) a d') : Rl F G (upd H a o) σ (ρ.put i (.ow d')) := by
  obtain ⟨a', h1, h2, h3, h4⟩ := r.ow i d h
  rw [h1] at hs
  cases hs
  have hsub : Same G (upd H a o) := fun b x e => by
    have hb : b ≠ a := fun z => by rw [z, h3] at e; cases e
    rw [upd_ne hb]; exact r.sub _ _ e
  refine ⟨hsub, fun b q => ?_, by rw [put_sl, List.length_set]; exact r.len, fun j e q => ?_, fun j e q => ?_, fun j k e f b q1 q2 s1 s2 => ?_, fun b e => ?_, fun b j e q1 q2 => ?_⟩
  · have hb : b ≠ a := fun z => h2 (z ▸ q)
    rw [upd_ne hb]; exact r.fr b q
  · rcases put_at q with ⟨ej, z0⟩ | ⟨ne, q⟩
    · cases z0
    · exact r.fz j e q
  · rcases put_at q with ⟨ej, z0⟩ | ⟨ne, q⟩
    · subst ej; cases z0; exact ⟨a, h1, h2, h3, c⟩
    · obtain ⟨b, q1, q2, q3, q4⟩ := r.ow j e q
      have hb : b ≠ a := fun z => ne (r.ap j i e d a q h (z ▸ q1) h1)
      exact ⟨b, q1, q2, q3, q4.sub (Same.refl G) (upd_ne hb)⟩
  · have d1 : ∃ e', ρ.sl[j]? = some (.ow e') := by
      rcases put_at q1 with ⟨ej, z0⟩ | ⟨_, q1⟩
      · subst ej; exact ⟨d, h⟩
      · exact ⟨e, q1⟩
    have d2 : ∃ e', ρ.sl[k]? = some (.ow e') := by
      rcases put_at q2 with ⟨ej, z0⟩ | ⟨_, q2⟩
      · subst ej; exact ⟨d, h⟩
      · exact ⟨f, q2⟩
    obtain ⟨e1, d1⟩ := d1
    obtain ⟨e2, d2⟩ := d2
    exact r.ap j k e1 e2 b d1 d2 s1 s2
  · have q := r.bg b e
    have hb : b.1 ≠ a := fun z => r.bo b i d e h (by rw [z]; exact h1)
    exact q.sub (Same.refl G) q.1 (upd_ne hb)
  · rcases put_at q2 with ⟨ej, z0⟩ | ⟨_, q2⟩
    · subst ej; exact r.bo b j d q1 h
    · exact r.bo b j e q1 q2

/-- a new thing is put aside while something else goes on -/
def Fr.aside (F : Fr) (a : Addr) (o : HO) : Fr := { F with P := fun b => b = a ∨ F.P b, H0 := upd F.H0 a o }
theorem Rl.aside {a : Addr} {d : D} {o : HO} (r : Rl F G H σ ρ) (n : Nw F G H σ ρ a d) (ho : H a = some o) : Rl (F.aside a o) G H σ ρ := by
  refine ⟨r.sub, fun b q => ?_, r.len, r.fz, fun i e q => ?_, r.ap, r.bg, r.bo⟩
  · show G b = none ∧ H b = upd F.H0 a o b ∧ H b ≠ none ∧ nbag ρ.bag b
    by_cases hb : b = a
    · subst hb
      rw [upd_same]
      exact ⟨n.gn, ho, by rw [ho]; exact nofun, n.bg⟩
    · rw [upd_ne hb]
      exact r.fr b (q.resolve_left hb)
  · obtain ⟨b, q1, q2, q3, q4⟩ := r.ow i e q
    refine ⟨b, q1, fun z => ?_, q3, q4⟩
    rcases z with z | z
    · exact n.sl i e q (z ▸ q1)
    · exact q2 z
theorem Rl.unaside {G' H' : Hp} {σ' : L2.St} {ρ' : Sta} {a : Addr} {d : D} {o : HO} (r : Rl F G H σ ρ) (n : Nw F G H σ ρ a d) (ho : H a = some o) (g : Same G G') (r' : Rl (F.aside a o) G' H' σ' ρ') : Rl F G' H' σ' ρ' ∧ Nw F G' H' σ' ρ' a d := by
  have old : ∀ b, F.P b → b ≠ a := fun b q z => n.np (z ▸ q)
  obtain ⟨q1, q2, q3, q4⟩ := r'.fr a (.inl rfl)
  have q2' : H' a = some o := by
    have : (F.aside a o).H0 a = some o := upd_same
    rw [q2, this]
  refine ⟨⟨r'.sub, fun b q => ?_, r'.len, r'.fz, fun i e q => ?_, r'.ap, r'.bg, r'.bo⟩, ⟨n.np, q1, n.con.sub g (q2'.trans ho.symm), fun i e q z => ?_, q4⟩⟩
  · obtain ⟨p1, p2, p3, p4⟩ := r'.fr b (.inr q)
    have e : (F.aside a o).H0 b = F.H0 b := upd_ne (old b q)
    exact ⟨p1, p2.trans e, p3, p4⟩
  · obtain ⟨b, p1, p2, p3, p4⟩ := r'.ow i e q
    exact ⟨b, p1, fun z => p2 (.inr z), p3, p4⟩
  · obtain ⟨b, p1, p2, p3, p4⟩ := r'.ow i e q
    rw [p1] at z
    cases z
    exact p2 (.inl rfl)
end
end DI

set_option Elab.async false
set_option linter.all false
set_option autoImplicit false
set_option maxRecDepth 100000
set_option maxHeartbeats 1000000
/-! DI1m: what is asked grows with what is wanted. -/
namespace DI
open PySem PySem.Spec PyProof.Rows L2
section
variable {Q Q' : R → Prop}
theorem semEq_mono {n : Bool} {a b : D} (f : ∀ r, Q r → Q' r) (h : semEq n a b Q) : semEq n a b Q' := ⟨h.1, f _ h.2⟩
theorem semIn_mono {W : Program × World} {n : Bool} {a b : D} (f : ∀ r, Q r → Q' r) (h : semIn W n a b Q) : semIn W n a b Q' := by
  unfold semIn at h ⊢
  split at h
  · exact ⟨h.1, f _ h.2⟩
  · exact ⟨h.1, f _ h.2⟩
  · split at h
    · exact f _ h
    · exact h
  · split at h
    · obtain ⟨h1, k, h2, h3, h4⟩ := h; exact ⟨h1, k, h2, h3, f _ h4⟩
    · exact h
  · exact h
theorem semCmp_mono {p : Int → Int → Bool} {a b : D} (f : ∀ r, Q r → Q' r) (h : semCmp p a b Q) : semCmp p a b Q' := by
  unfold semCmp at h ⊢
  split at h
  · exact f _ h
  · exact h
theorem sem2_mono {W : Program × World} {o : O2} {a b : D} (f : ∀ r, Q r → Q' r) (h : sem2 W o a b Q) : sem2 W o a b Q' := by
  cases o with
  | add =>
    simp only [sem2] at h ⊢
    split at h
    · exact f _ h
    · exact ⟨h.1, f _ h.2⟩
    · exact ⟨h.1, f _ h.2⟩
    · exact ⟨h.1, f _ h.2⟩
    · exact h
  | sub =>
    simp only [sem2] at h ⊢
    split at h
    · exact f _ h
    · exact h
  | mul =>
    simp only [sem2] at h ⊢
    split at h
    · exact ⟨h.1, f _ h.2⟩
    · exact ⟨h.1, h.2.1, h.2.2.1, f _ h.2.2.2⟩
    · exact h
  | mod =>
    simp only [sem2] at h ⊢
    split at h
    · exact ⟨h.1, f _ h.2⟩
    · exact h
  | fdiv =>
    simp only [sem2] at h ⊢
    split at h
    · exact ⟨h.1, f _ h.2⟩
    · exact h
  | pow =>
    simp only [sem2] at h ⊢
    split at h
    · exact ⟨h.1, f _ h.2⟩
    · exact h
  | eq => exact semEq_mono f h
  | ne => exact semEq_mono f h
  | lt => exact semCmp_mono f h
  | le => exact semCmp_mono f h
  | gt => exact semCmp_mono f h
  | ge => exact semCmp_mono f h
  | isin => exact semIn_mono f h
  | notin => exact semIn_mono f h
  | is =>
    simp only [sem2] at h ⊢
    split at h
    · exact f _ h
    · exact ⟨h.1, f _ h.2⟩
    · exact h
  | isnot =>
    simp only [sem2] at h ⊢
    split at h
    · exact f _ h
    · exact ⟨h.1, f _ h.2⟩
    · exact h
  | ix =>
    simp only [sem2] at h ⊢
    split at h
    · obtain ⟨d, e, q⟩ := h; exact ⟨d, e, f _ q⟩
    · obtain ⟨d, e, q⟩ := h; exact ⟨d, e, f _ q⟩
    · obtain ⟨d, e, q⟩ := h; exact ⟨d, e, f _ q⟩
    · obtain ⟨d, e, q⟩ := h; exact ⟨d, e, f _ q⟩
    · obtain ⟨d, e, q⟩ := h; exact ⟨d, e, f _ q⟩
    · obtain ⟨l, d, e, q⟩ := h; exact ⟨l, d, e, f _ q⟩
    · exact h
theorem semN_mono {m : N1} {d : D} {ds : List D} (f : ∀ r, Q r → Q' r) (h : semN m d ds Q) : semN m d ds Q' := by
  cases m with
  | split =>
    simp only [semN] at h ⊢
    split at h
    · exact ⟨h.1, h.2.1, f _ h.2.2⟩
    · exact h
theorem sem1_mono {o : O1} {a : D} (f : ∀ r, Q r → Q' r) (h : sem1 o a Q) : sem1 o a Q' := by
  cases o with
  | neg =>
    simp only [sem1] at h ⊢
    split at h
    · exact f _ h
    · exact h
theorem semB_mono {b : B1} {ds : List D} (f : ∀ r, Q r → Q' r) (h : semB b ds Q) : semB b ds Q' := by
  cases b with
  | len =>
    simp only [semB] at h ⊢
    split at h
    · exact f _ h
    · exact f _ h
    · exact ⟨h.1, f _ h.2⟩
    · exact f _ h
    · exact f _ h
    · exact h
  | abs =>
    simp only [semB] at h ⊢
    split at h
    · exact f _ h
    · exact h
  | int =>
    simp only [semB] at h ⊢
    split at h
    · exact f _ h
    · exact f _ h
    · exact h
  | str =>
    simp only [semB] at h ⊢
    split at h
    · exact ⟨h.1, f _ h.2⟩
    · exact h
  | list =>
    simp only [semB] at h ⊢
    split at h
    · exact f _ h
    · exact f _ h
    · exact h
  | tuple =>
    simp only [semB] at h ⊢
    split at h
    · exact f _ h
    · exact f _ h
    · exact h
  | sorted =>
    simp only [semB] at h ⊢
    split at h
    · rcases h with ⟨ss, e, l, q⟩ | ⟨ss, e, l, q⟩
      · exact .inl ⟨ss, e, l, fun ys p z => f _ (q ys p z)⟩
      · exact .inr ⟨ss, e, l, fun ys p z => f _ (q ys p z)⟩
    · obtain ⟨ss, e, l, q⟩ := h; exact ⟨ss, e, l, fun ys p z => f _ (q ys p z)⟩
    · exact h
  | repr =>
    simp only [semB] at h ⊢
    split at h
    · exact ⟨h.1, f _ h.2⟩
    · exact h
  | all =>
    simp only [semB] at h ⊢
    split at h
    · obtain ⟨bs, e, q⟩ := h; exact ⟨bs, e, f _ q⟩
    · exact h
  | any =>
    simp only [semB] at h ⊢
    split at h
    · obtain ⟨bs, e, q⟩ := h; exact ⟨bs, e, f _ q⟩
    · exact h
  | sum =>
    simp only [semB] at h ⊢
    split at h
    · obtain ⟨bs, e, q⟩ := h; exact ⟨bs, e, f _ q⟩
    · exact h
  | isi =>
    simp only [semB] at h ⊢
    split at h
    · obtain ⟨bs, e, q⟩ := h; exact ⟨bs, e, f _ q⟩
    · obtain ⟨ns, b, e1, e0, e2, q⟩ := h; exact ⟨ns, b, e1, e0, e2, f _ q⟩
    · exact h
  | dict =>
    simp only [semB] at h ⊢
    split at h
    · obtain ⟨kvs, e, q⟩ := h; exact ⟨kvs, e, f _ q⟩
    · exact f _ h
    · exact h
end
theorem semM_mono {m : M2} {d : D} {ds : List D} {Q Q' : D → D → Prop} (f : ∀ x y, Q x y → Q' x y) (h : semM m d ds Q) : semM m d ds Q' := by
  cases m with
  | append =>
    simp only [semM] at h ⊢
    split at h
    · exact ⟨h.1, f _ _ h.2⟩
    · exact h
  | extend =>
    simp only [semM] at h ⊢
    split at h
    · exact ⟨h.1, f _ _ h.2⟩
    · exact h
  | pop =>
    simp only [semM] at h ⊢
    split at h
    · obtain ⟨y, e, q⟩ := h; exact ⟨y, e, f _ _ q⟩
    · exact h
  | popAt =>
    simp only [semM] at h ⊢
    split at h
    · obtain ⟨h1, h2, k, y, e, e2, q⟩ := h; exact ⟨h1, h2, k, y, e, e2, f _ _ q⟩
    · exact h
  | insert =>
    simp only [semM] at h ⊢
    split at h
    · exact ⟨h.1, h.2.1, h.2.2.1, f _ _ h.2.2.2⟩
    · exact h
theorem keep_mono {r : R} {ρ : Sta} {Q Q' : D → Sta → Prop} (f : ∀ d ρ, Q d ρ → Q' d ρ) (h : keep r ρ Q) : keep r ρ Q' := by
  cases r with
  | fz d => exact f _ _ h
  | ow d => exact f _ _ h
  | al i =>
    simp only [keep] at h ⊢
    split at h
    · exact f _ _ h
    · exact h
theorem rd_mono {r : R} {ρ : Sta} {Q Q' : D → Prop} (f : ∀ d, Q d → Q' d) (h : rd ρ r Q) : rd ρ r Q' := by
  cases r with
  | fz d => exact f _ h
  | ow d => exact f _ h
  | al i =>
    simp only [rd] at h ⊢
    split at h
    · exact f _ h
    · exact h
theorem rdA_mono {ρ : Sta} : ∀ {rs : List R} {Q Q' : List D → Prop}, (∀ d, Q d → Q' d) → rdA ρ rs Q → rdA ρ rs Q'
  | [], _, _, f, h => f _ h
  | r :: rs, _, _, f, h => rd_mono (fun d q => rdA_mono (fun ds z => f _ z) q) h
theorem asgG_mono {g : CG} {d : D} {ρ : Sta} {Q Q' : Sta → Prop} (f : ∀ ρ, Q ρ → Q' ρ) (h : asgG g d ρ Q) : asgG g d ρ Q' := by
  cases g with
  | name i => exact f _ h
  | tup is =>
    simp only [asgG] at h ⊢
    split at h
    · obtain ⟨ρ', e, q⟩ := h; exact ⟨ρ', e, f _ q⟩
    · exact h
theorem compD_mono {s s' : D → Sta → (Option D → Sta → Prop) → Prop} (hs : ∀ d ρ k k', (∀ o ρ, k o ρ → k' o ρ) → s d ρ k → s' d ρ k') :
    ∀ {ds acc : List D} {ρ : Sta} {Q Q' : List D → Sta → Prop}, (∀ a ρ, Q a ρ → Q' a ρ) → compD s ds acc ρ Q → compD s' ds acc ρ Q'
  | [], _, _, _, _, f, h => f _ _ h
  | d :: ds, acc, ρ, _, _, f, h => ⟨h.1, hs d ρ _ _ (fun o ρ' q => compD_mono hs f q) h.2⟩
structure En.Le (E E' : En) : Prop where
  nx : ∀ ρ, E.nx ρ → E'.nx ρ
  rt : ∀ r ρ, E.rt r ρ → E'.rt r ρ
  bk : ∀ ρ, E.bk ρ → E'.bk ρ
  ct : ∀ ρ, E.ct ρ → E'.ct ρ
theorem forD_mono {s : D → Sta → En → Prop} (hs : ∀ d ρ E E', E.Le E' → s d ρ E → s d ρ E') : ∀ {ds : List D} {ρ : Sta} {E E' : En}, E.Le E' → forD s ds ρ E → forD s ds ρ E'
  | [], _, _, _, f, h => f.nx _ h
  | d :: ds, ρ, _, _, f, h => by
    refine hs d ρ _ _ ?_ h
    exact ⟨fun ρ q => forD_mono hs f q, f.rt, f.nx, fun ρ q => forD_mono hs f q⟩

def Tb.Mono (T : Tb) : Prop := ∀ k β ds (Q Q' : R → Prop), (∀ r, Q r → Q' r) → T.fn k β ds Q → T.fn k β ds Q'

mutual
theorem evE_mono {T : Tb} (tm : T.Mono) : ∀ (c : CE) {ρ : Sta} {Q Q' : R → Sta → Prop}, (∀ r ρ, Q r ρ → Q' r ρ) → evE T c ρ Q → evE T c ρ Q'
  | .var i, ρ, _, _, f, h => by
    simp only [evE] at h ⊢
    split at h
    · exact f _ _ h
    · exact f _ _ h
    · exact h
  | .con d, _, _, _, f, h => f _ _ h
  | .op2 o a b, ρ, _, _, f, h => by
    simp only [evE] at h ⊢
    exact evE_mono tm a (fun r ρ1 h => evE_mono tm b (fun s ρ2 h => rd_mono (fun x h => rd_mono (fun y h => sem2_mono (fun z h => f _ _ h) h) h) h) h) h
  | .op1 o a, ρ, _, _, f, h => by
    simp only [evE] at h ⊢
    exact evE_mono tm a (fun r ρ1 h => rd_mono (fun x h => sem1_mono (fun z h => f _ _ h) h) h) h
  | .glo k, _, _, _, f, h => f _ _ h
  | .and a b, ρ, _, _, f, h => by
    simp only [evE] at h ⊢
    refine evE_mono tm a (fun r ρ1 h => ?_) h
    split at h
    · split at h
      · rw [if_pos (by assumption)]; exact evE_mono tm b f h
      · rw [if_neg (by assumption)]; exact f _ _ h
    · exact h
  | .or a b, ρ, _, _, f, h => by
    simp only [evE] at h ⊢
    refine evE_mono tm a (fun r ρ1 h => ?_) h
    split at h
    · split at h
      · rw [if_pos (by assumption)]; exact f _ _ h
      · rw [if_neg (by assumption)]; exact evE_mono tm b f h
    · exact h
  | .not a, ρ, _, _, f, h => by
    simp only [evE] at h ⊢
    refine evE_mono tm a (fun r ρ1 h => ?_) h
    split at h
    · exact f _ _ h
    · exact h
  | .ifx c a b, ρ, _, _, f, h => by
    simp only [evE] at h ⊢
    refine evT_mono tm c (fun k ρ1 h => ?_) h
    cases k with
    | true => exact evE_mono tm a f h
    | false => exact evE_mono tm b f h
  | .lst es, ρ, _, _, f, h => by
    simp only [evE] at h ⊢
    exact evK_mono tm es (fun ds ρ1 h => ⟨h.1, f _ _ h.2⟩) h
  | .tup es, ρ, _, _, f, h => by
    simp only [evE] at h ⊢
    exact evK_mono tm es (fun ds ρ1 h => ⟨h.1, f _ _ h.2⟩) h
  | .slc a lo hi, ρ, _, _, f, h => by
    simp only [evE] at h ⊢
    refine evE_mono tm a (fun r ρ1 h => evO_mono tm lo (fun l ρ2 h => evO_mono tm hi (fun u ρ3 h => rd_mono (fun x h => ?_) h) h) h) h
    split at h
    · exact f _ _ h
    · exact f _ _ h
    · exact f _ _ h
    · exact ⟨h.1, f _ _ h.2⟩
    · exact h
  | .meth m a e, ρ, _, _, f, h => by
    simp only [evE] at h ⊢
    refine evE_mono tm a (fun r ρ1 h => ?_) h
    split at h
    · exact evE_mono tm e (fun s ρ2 h => rd_mono (fun y h => semN_mono (fun z h => f _ _ h) h) h) h
    · exact h
  | .sset e, ρ, _, _, f, h => by
    simp only [evE] at h ⊢
    refine evE_mono tm e (fun r ρ1 h => rd_mono (fun y h => ?_) h) h
    split at h
    · obtain ⟨ns, h1, h2, h3⟩ := h; exact ⟨ns, h1, h2, fun ys q1 q2 => f _ _ (h3 ys q1 q2)⟩
    · exact h
  | .dn1 k v, ρ, _, _, f, h => by
    simp only [evE] at h ⊢
    refine evE_mono tm k (fun r ρ1 h => keep_mono (fun x ρ2 h => evE_mono tm v (fun s ρ3 h => keep_mono (fun y ρ4 h => ?_) h) h) h) h
    split at h
    · obtain ⟨n, h1, h2, h3⟩ := h; exact ⟨n, h1, h2, f _ _ h3⟩
    · exact h
  | .tyc n, ρ, _, _, f, h => f _ _ h
  | .dk0, ρ, _, _, f, h => f _ _ h
  | .dk1 x v, ρ, _, _, f, h => by
    simp only [evE] at h ⊢
    exact evE_mono tm v (fun r ρ1 h => keep_mono (fun x ρ2 h => f _ _ h) h) h
  | .upper a, ρ, _, _, f, h => by
    simp only [evE] at h ⊢
    refine evE_mono tm a (fun r ρ1 h => rd_mono (fun y h => ?_) h) h
    split at h
    · exact ⟨h.1, f _ _ h.2⟩
    · exact h
  | .cnt a e, ρ, _, _, f, h => by
    simp only [evE] at h ⊢
    refine evE_mono tm a (fun r ρ1 h => ⟨h.1, evE_mono tm e (fun s ρ2 h => rd_mono (fun x h => rd_mono (fun y h => ?_) h) h) h.2⟩) h
    split at h
    · obtain ⟨ss, h1, h2⟩ := h; exact ⟨ss, h1, f _ _ h2⟩
    · exact h
  | .compk own g i c e, ρ, _, _, f, h => by
    simp only [evE] at h ⊢
    split at h
    · refine compD_mono (fun d ρ2 k k' hk h => asgG_mono (fun ρ3 h => evC_mono tm c (fun b ρ4 h => ?_) h) h) (fun a ρ h => f _ _ h) h
      cases b with
      | true => exact evE_mono tm e (fun r ρ5 h => keep_mono (fun x ρ6 h => hk _ _ h) h) h
      | false => exact hk _ _ h
    · exact h
  | .bi b es, ρ, _, _, f, h => by
    simp only [evE] at h ⊢
    exact evA_mono tm es (fun rs ρ1 h => rdA_mono (fun ds h => semB_mono (fun z h => f _ _ h) h) h) h
  | .mut m i es, ρ, _, _, f, h => by
    simp only [evE] at h ⊢
    refine ⟨h.1, evK_mono tm es (fun ds ρ1 h => ?_) h.2⟩
    split at h
    · exact semM_mono (fun x y h => f _ _ h) h
    · exact h
  | .call k es, ρ, _, _, f, h => by
    simp only [evE] at h ⊢
    refine evA_mono tm es (fun rs ρ1 h => rdA_mono (fun ds h => tm k _ ds _ _ (fun z h => ?_) h) h) h
    cases z with
    | fz d =>
      simp only at h ⊢
      split at h
      · rw [if_pos (by assumption)]; exact f _ _ h
      · rw [if_neg (by assumption)]; exact f _ _ h
    | ow d => exact f _ _ h
    | al i => trivial
  | .comp own g it c e, ρ, _, _, f, h => by
    simp only [evE] at h ⊢
    refine evI_mono tm it (fun ds ρ1 h => compD_mono (fun d ρ2 k k' hk h => asgG_mono (fun ρ3 h => evC_mono tm c (fun b ρ4 h => ?_) h) h) (fun a ρ h => f _ _ h) h) h
    cases b with
    | true => exact evE_mono tm e (fun r ρ5 h => keep_mono (fun x ρ6 h => hk _ _ h) h) h
    | false => exact hk _ _ h
theorem evA_mono {T : Tb} (tm : T.Mono) : ∀ (c : CA) {ρ : Sta} {Q Q' : List R → Sta → Prop}, (∀ r ρ, Q r ρ → Q' r ρ) → evA T c ρ Q → evA T c ρ Q'
  | .nil, _, _, _, f, h => f _ _ h
  | .cons e es, ρ, _, _, f, h => by
    simp only [evA] at h ⊢
    exact evE_mono tm e (fun r ρ1 h => evA_mono tm es (fun rs ρ2 h => f _ _ h) h) h
theorem evK_mono {T : Tb} (tm : T.Mono) : ∀ (c : CA) {ρ : Sta} {Q Q' : List D → Sta → Prop}, (∀ r ρ, Q r ρ → Q' r ρ) → evK T c ρ Q → evK T c ρ Q'
  | .nil, _, _, _, f, h => f _ _ h
  | .cons e es, ρ, _, _, f, h => by
    simp only [evK] at h ⊢
    exact evE_mono tm e (fun r ρ1 h => keep_mono (fun d ρ2 h => evK_mono tm es (fun rs ρ2 h => f _ _ h) h) h) h
theorem evO_mono {T : Tb} (tm : T.Mono) : ∀ (c : CO) {ρ : Sta} {Q Q' : Option Int → Sta → Prop}, (∀ r ρ, Q r ρ → Q' r ρ) → evO T c ρ Q → evO T c ρ Q'
  | .none, _, _, _, f, h => f _ _ h
  | .some e, ρ, _, _, f, h => by
    simp only [evO] at h ⊢
    refine evE_mono tm e (fun r ρ1 h => ?_) h
    split at h
    · exact f _ _ h
    · exact h
theorem evC_mono {T : Tb} (tm : T.Mono) : ∀ (c : CC) {ρ : Sta} {Q Q' : Bool → Sta → Prop}, (∀ r ρ, Q r ρ → Q' r ρ) → evC T c ρ Q → evC T c ρ Q'
  | .none, _, _, _, f, h => f _ _ h
  | .some c, ρ, _, _, f, h => by
    simp only [evC] at h ⊢
    exact evT_mono tm c f h
theorem evT_mono {T : Tb} (tm : T.Mono) : ∀ (c : CT) {ρ : Sta} {Q Q' : Bool → Sta → Prop}, (∀ r ρ, Q r ρ → Q' r ρ) → evT T c ρ Q → evT T c ρ Q'
  | .cmp o a b, ρ, _, _, f, h => by
    simp only [evT] at h ⊢
    refine evE_mono tm a (fun r ρ1 h => evE_mono tm b (fun s ρ2 h => rd_mono (fun x h => rd_mono (fun y h => sem2_mono (fun z h => ?_) h) h) h) h) h
    split at h
    · exact f _ _ h
    · exact h
  | .and a b, ρ, _, _, f, h => by
    simp only [evT] at h ⊢
    refine evT_mono tm a (fun k ρ1 h => ?_) h
    cases k with
    | true => exact evT_mono tm b f h
    | false => exact f _ _ h
  | .or a b, ρ, _, _, f, h => by
    simp only [evT] at h ⊢
    refine evT_mono tm a (fun k ρ1 h => ?_) h
    cases k with
    | true => exact f _ _ h
    | false => exact evT_mono tm b f h
  | .not a, ρ, _, _, f, h => by
    simp only [evT] at h ⊢
    exact evT_mono tm a (fun k ρ1 h => f _ _ h) h
  | .val e, ρ, _, _, f, h => by
    simp only [evT] at h ⊢
    refine evE_mono tm e (fun r ρ1 h => rd_mono (fun d h => ?_) h) h
    obtain ⟨k, h1, h2⟩ := h
    exact ⟨k, h1, f _ _ h2⟩
theorem evI_mono {T : Tb} (tm : T.Mono) : ∀ (c : CI) {ρ : Sta} {Q Q' : List D → Sta → Prop}, (∀ r ρ, Q r ρ → Q' r ρ) → evI T c ρ Q → evI T c ρ Q'
  | .seq e, ρ, _, _, f, h => by
    simp only [evI] at h ⊢
    refine evE_mono tm e (fun r ρ1 h => keep_mono (fun d ρ2 h => ?_) h) h
    split at h
    · exact f _ _ h
    · exact f _ _ h
    · exact h
  | .range es, ρ, _, _, f, h => by
    simp only [evI] at h ⊢
    refine evA_mono tm es (fun r ρ1 h => ?_) h
    split at h
    · exact ⟨h.1, h.2.1, f _ _ h.2.2⟩
    · exact ⟨h.1, f _ _ h.2⟩
    · exact h
  | .enum e, ρ, _, _, f, h => by
    simp only [evI] at h ⊢
    refine evE_mono tm e (fun r ρ1 h => keep_mono (fun d ρ2 h => ?_) h) h
    split at h
    · exact f _ _ h
    · exact h
end
theorem whileD_mono {c : Sta → (Bool → Sta → Prop) → Prop} {b : Sta → En → Prop} (hc : ∀ ρ k k', (∀ o ρ, k o ρ → k' o ρ) → c ρ k → c ρ k') (hb : ∀ ρ E E', E.Le E' → b ρ E → b ρ E') {ρ : Sta} {E E' : En} (f : E.Le E') (h : whileD c b ρ E) : whileD c b ρ E' := by
  obtain ⟨I, h0, h1⟩ := h
  refine ⟨I, h0, fun m ρ hI => hc ρ _ _ (fun k ρ' h => ?_) (h1 m ρ hI)⟩
  cases k with
  | true =>
    refine hb _ _ _ ?_ h
    exact ⟨fun _ q => q, f.rt, f.nx, fun _ q => q⟩
  | false => exact f.nx _ h
mutual
theorem evS_mono {T : Tb} (tm : T.Mono) : ∀ (c : CS) {ρ : Sta} {E E' : En}, E.Le E' → evS T c ρ E → evS T c ρ E'
  | .asg g e, ρ, _, _, f, h => by
    simp only [evS] at h ⊢
    refine evE_mono tm e (fun r ρ1 h => ?_) h
    split at h
    · exact f.nx _ h
    · exact f.nx _ h
    · exact keep_mono (fun d ρ h => asgG_mono f.nx h) h
  | .par i j a b, ρ, _, _, f, h => by
    simp only [evS] at h ⊢
    refine evE_mono tm a (fun r ρ1 h => evE_mono tm b (fun s ρ2 h => ?_) h) h
    split at h
    · exact f.nx _ h
    · exact f.nx _ h
    · exact f.nx _ h
    · exact f.nx _ h
    · exact h
  | .sub i k e, ρ, _, _, f, h => by
    simp only [evS] at h ⊢
    refine evE_mono tm e (fun r ρ1 h => keep_mono (fun d ρ2 h => ⟨h.1, evE_mono tm k (fun s ρ3 h => ?_) h.2⟩) h) h
    split at h
    · obtain ⟨j, h1, h2⟩ := h; exact ⟨j, h1, f.nx _ h2⟩
    · exact h
  | .augS i k e, ρ, _, _, f, h => by
    simp only [evS] at h ⊢
    refine ⟨h.1, evE_mono tm k (fun r ρ1 h => ?_) h.2⟩
    split at h
    · obtain ⟨j, x, h1, h2, h3⟩ := h
      refine ⟨j, x, h1, h2, evE_mono tm e (fun s ρ2 h => ?_) h3⟩
      split at h
      · exact ⟨h.1, f.nx _ h.2⟩
      · exact h
    · exact h
  | .dset i k e, ρ, _, _, f, h => by
    simp only [evS] at h ⊢
    refine evE_mono tm e (fun r ρ1 h => keep_mono (fun d ρ2 h => ⟨h.1, evE_mono tm k (fun s ρ3 h => ?_) h.2⟩) h) h
    split at h
    · obtain ⟨h0, h1, n, h2, h3, h4⟩ := h; exact ⟨h0, h1, n, h2, h3, f.nx _ h4⟩
    · exact ⟨h.1, f.nx _ h.2⟩
    · exact h
  | .aug i o e, ρ, _, _, f, h => by
    simp only [evS] at h ⊢
    refine ⟨h.1, evE_mono tm e (fun r ρ1 h => ?_) h.2⟩
    split at h
    · split at h
      · exact f.nx _ h
      · exact f.nx _ h
      · exact h
    · exact h
  | .expr e, ρ, _, _, f, h => by
    simp only [evS] at h ⊢
    exact evE_mono tm e (fun r ρ1 h => f.nx _ h) h
  | .ret e, ρ, _, _, f, h => by
    simp only [evS] at h ⊢
    exact evE_mono tm e (fun r ρ1 h => f.rt _ _ h) h
  | .ite c a b, ρ, _, _, f, h => by
    simp only [evS] at h ⊢
    refine evT_mono tm c (fun k ρ1 h => ?_) h
    cases k with
    | true => exact evB_mono tm a f h
    | false => exact evB_mono tm b f h
  | .for_ g it b, ρ, _, _, f, h => by
    simp only [evS] at h ⊢
    refine evI_mono tm it (fun ds ρ1 h => ?_) h
    refine forD_mono ?_ f h
    intro d ρ E E' hl h
    exact asgG_mono (fun ρ3 h => evB_mono tm b hl h) h
  | .while_ c b, ρ, _, _, f, h => by
    simp only [evS] at h ⊢
    refine whileD_mono ?_ ?_ f h
    · intro ρ k k' hk h
      exact evT_mono tm c hk h
    · intro ρ E E' hl h
      exact evB_mono tm b hl h
  | .brk, _, _, _, f, h => f.bk _ h
  | .cont, _, _, _, f, h => f.ct _ h
  | .pass, _, _, _, f, h => f.nx _ h
  | .never, _, _, _, _, h => h
theorem evB_mono {T : Tb} (tm : T.Mono) : ∀ (c : List CS) {ρ : Sta} {E E' : En}, E.Le E' → evB T c ρ E → evB T c ρ E'
  | [], _, _, _, f, h => f.nx _ h
  | s :: ss, ρ, _, _, f, h => by
    simp only [evB] at h ⊢
    refine evS_mono tm s ?_ h
    exact ⟨fun ρ h => evB_mono tm ss f h, f.rt, f.bk, f.ct⟩
end
end DI

set_option Elab.async false
set_option linter.all false
set_option autoImplicit false
set_option maxRecDepth 100000
set_option maxHeartbeats 1000000
/-! DI2a: the operators over data, led back to the hand layer's. -/
namespace DI
open PySem PySem.Spec PyProof.Rows L2

mutual
theorem Rp.dp {K : PySem.W.Frag} {H : Hp} : ∀ {v : V} {d : D}, Rp K H v d → d.ok = true → d.py.canLay0 = true → Dp K H v d.py
  | _, _, .non, _, _ => by rw [D.py]; exact .non
  | _, _, .bl b, _, _ => by rw [D.py]; exact .bl b
  | _, _, .int i, _, _ => by rw [D.py]; exact .int i
  | _, _, .str x, _, _ => by rw [D.py]; exact .str x
  | _, _, .lst h r, o, c => by
    rw [D.py] at c ⊢
    rw [D.ok] at o
    rw [PyData.canLay0] at c
    exact .lst (SqL.of h) (RpA.dp r o c)
  | _, _, .tup h r, o, c => by
    rw [D.py] at c ⊢
    rw [D.ok] at o
    rw [PyData.canLay0] at c
    exact .tup h (RpA.dp r o c)
  | _, _, .dct h r, o, c => by
    rw [D.py, PyData.canLay0] at c
    cases c
  | _, _, .opq v, o, _ => by
    rw [D.ok] at o
    cases o
  | _, _, .scr _, o, _ => by
    rw [D.ok] at o
    cases o
  | _, _, .dcn _ _, o, _ => by
    rw [D.ok] at o
    cases o
theorem RpA.dp {K : PySem.W.Frag} {H : Hp} : ∀ {vs : List V} {ds : List D}, RpA K H vs ds → okA ds = true → PyData.canLayAll0 (pyA ds) = true → DpAll K H vs (pyA ds)
  | _, _, .nil, _, _ => by rw [pyA]; exact .nil
  | _, _, .cons h r, o, c => by
    rw [pyA] at c ⊢
    rw [okA, Bool.and_eq_true] at o
    rw [PyData.canLayAll0, Bool.and_eq_true] at c
    exact .cons (Rp.dp h o.1 c.1) (RpA.dp r o.2 c.2)
end

/-- an operand: its outer list or dict may be the body's own, the rest is not changed any more -/
def Ro (K : PySem.W.Frag) (G H : Hp) (v : V) : D → Prop
  | .lst ds => ∃ a vs, v = .ref a ∧ H a = some (.lst vs) ∧ RpA K G vs ds
  | .dct ds => ∃ a kvs, v = .ref a ∧ Rd H a (.dK kvs) ∧ RpK K G kvs ds
  | .dcn W ds => ∃ a xs, v = .ref a ∧ H a = some (DnO W a xs) ∧ RpN K G xs ds
  | d => Rp K G v d
section
variable {K : PySem.W.Frag} {G H : Hp} {v : V}
theorem Rp.ro {d : D} (h : Rp K G v d) (s : Same G H) : Ro K G H v d := by
  cases h with
  | lst h r => exact ⟨_, _, rfl, s _ _ h, r⟩
  | dct h r => exact ⟨_, _, rfl, same_rd s h, r⟩
  | dcn h r => exact ⟨_, _, rfl, s _ _ h, r⟩
  | scr h => exact .scr h
  | non => exact .non
  | bl b => exact .bl b
  | int i => exact .int i
  | str x => exact .str x
  | tup h r => exact .tup h r
  | opq v => exact .opq v
theorem Con.ro {a : Addr} {d : D} (c : Con K G H a d) : Ro K G H (.ref a) d := by
  cases d with
  | lst ds => obtain ⟨vs, h1, h2⟩ := c; exact ⟨a, vs, rfl, h1, h2⟩
  | dct ds => obtain ⟨vs, h1, h2⟩ := c; exact ⟨a, vs, rfl, .inl h1, h2⟩
  | dcn W ds => obtain ⟨vs, h1, h2⟩ := c; exact ⟨a, vs, rfl, h1, h2⟩
  | _ => exact c.elim
theorem Ro.rp {d : D} (h : Ro K G H v d) (s : Same G H) : Rp K H v d := by
  cases d with
  | lst ds => obtain ⟨a, vs, rfl, h1, h2⟩ := h; exact .lst h1 (h2.mono s)
  | dct ds => obtain ⟨a, vs, rfl, h1, h2⟩ := h; exact .dct h1 (h2.mono s)
  | dcn W ds => obtain ⟨a, vs, rfl, h1, h2⟩ := h; exact .dcn h1 (h2.mono s)
  | scr b ns => exact Rp.mono s h
  | non => exact Rp.mono s h
  | bl b => exact Rp.mono s h
  | int b => exact Rp.mono s h
  | str b => exact Rp.mono s h
  | tup b => exact Rp.mono s h
  | opq b => exact Rp.mono s h
theorem Ro.int {i : Int} (h : Ro K G H v (.int i)) : v = .int i := by
  have h : Rp K G v (.int i) := h
  cases h; rfl
theorem Ro.str {i : Str} (h : Ro K G H v (.str i)) : v = .str i := by
  have h : Rp K G v (.str i) := h
  cases h; rfl
theorem Ro.bl {i : Bool} (h : Ro K G H v (.bl i)) : v = .bl i := by
  have h : Rp K G v (.bl i) := h
  cases h; rfl
theorem Ro.non (h : Ro K G H v .non) : v = .non := by
  have h : Rp K G v .non := h
  cases h; rfl
theorem Ro.tup {ds : List D} (h : Ro K G H v (.tup ds)) (s : Same G H) : ∃ a vs, v = .ref a ∧ SqT K H a vs ∧ RpA K G vs ds ∧ SqT K G a vs := by
  have h : Rp K G v (.tup ds) := h
  cases h with
  | tup q r => exact ⟨_, _, rfl, same_sqT s q, r, q⟩
/-- a plain flat value by its data -/
def pfV : D → V
  | .bl b => .bl b
  | .int i => .int i
  | .str x => .str x
  | _ => .non
theorem Ro.pf {d : D} (h : Ro K G H v d) (f : d.pf = true) : v = pfV d := by
  cases d with
  | non => exact h.non
  | bl b => exact h.bl
  | int i => exact h.int
  | str x => exact h.str
  | _ => cases f
theorem Rp.pf {d : D} (h : Rp K G v d) (f : d.pf = true) : v = pfV d := by
  cases h with
  | non => rfl
  | bl b => rfl
  | int i => rfl
  | str x => rfl
  | _ => cases f
theorem RpA.pf {vs : List V} {ds : List D} (h : RpA K G vs ds) (f : ds.all D.pf = true) : vs = ds.map pfV := by
  induction vs generalizing ds with
  | nil => cases h; rfl
  | cons v vs ih =>
    cases h with
    | cons a b =>
      rw [List.all_cons, Bool.and_eq_true] at f
      rw [List.map_cons, a.pf f.1, ih b f.2]
theorem pf_flat {d : D} (f : d.pf = true) : flatV (pfV d) = true := by cases d <;> first | rfl | cases f
theorem pf_flatA : ∀ {ds : List D}, ds.all D.pf = true → (ds.map pfV).all flatV = true
  | [], _ => rfl
  | d :: ds, f => by
    rw [List.all_cons, Bool.and_eq_true] at f
    rw [List.map_cons, List.all_cons, pf_flat f.1, pf_flatA f.2]
    rfl
theorem eqV_pf {a b : D} (fa : a.pf = true) (fb : b.pf = true) : eqV (pfV a) (pfV b) = eqD a b := by
  cases a with
  | non => cases b with
    | non => simp [eqD, D.py, pfV, eqV, PyData.eqv]
    | bl _ => simp [eqD, D.py, pfV, eqV, PyData.eqv]
    | int _ => simp [eqD, D.py, pfV, eqV, PyData.eqv]
    | str _ => simp [eqD, D.py, pfV, eqV, PyData.eqv]
    | _ => cases fb
  | bl _ => cases b with
    | non => simp [eqD, D.py, pfV, eqV, PyData.eqv]
    | bl _ => simp [eqD, D.py, pfV, eqV, PyData.eqv]
    | int _ => simp [eqD, D.py, pfV, eqV, PyData.eqv]
    | str _ => simp [eqD, D.py, pfV, eqV, PyData.eqv]
    | _ => cases fb
  | int _ => cases b with
    | non => simp [eqD, D.py, pfV, eqV, PyData.eqv]
    | bl _ => simp [eqD, D.py, pfV, eqV, PyData.eqv]
    | int _ => simp [eqD, D.py, pfV, eqV, PyData.eqv]
    | str _ => simp [eqD, D.py, pfV, eqV, PyData.eqv]
    | _ => cases fb
  | str _ => cases b with
    | non => simp [eqD, D.py, pfV, eqV, PyData.eqv]
    | bl _ => simp [eqD, D.py, pfV, eqV, PyData.eqv]
    | int _ => simp [eqD, D.py, pfV, eqV, PyData.eqv]
    | str _ => simp [eqD, D.py, pfV, eqV, PyData.eqv]
    | _ => cases fb
  | _ => cases fa
theorem inV_pf {a : D} (fa : a.pf = true) : ∀ {xs : List D}, xs.all D.pf = true → inV (pfV a) (xs.map pfV) = inD a xs
  | [], _ => rfl
  | x :: xs, f => by
    rw [List.all_cons, Bool.and_eq_true] at f
    have ih := inV_pf fa (xs := xs) f.2
    unfold inV inD at ih ⊢
    rw [List.map_cons, List.any_cons, List.any_cons, ih, eqV_pf f.1 fa]
theorem any_py (x : D) : ∀ xs : List D, ((pyA xs).any fun z => PyData.eqv z x.py) = inD x xs
  | [] => by rw [pyA]; rfl
  | y :: ys => by
    rw [pyA, List.any_cons, any_py x ys]
    rfl
theorem cmp_of {d : D} (h : d.cmp = true) : d.ok = true ∧ SeqAt.shaped d.py = true := Bool.and_eq_true_iff.mp h
theorem Ro.dp {d : D} (h : Ro K G H v d) (s : Same G H) (c : d.cmp = true) : Dp K H v d.py := (h.rp s).dp (cmp_of c).1 (SeqAt.canLay_of_shaped (cmp_of c).2)
theorem shaped_tup {xs : List PyData} : SeqAt.shaped (.tuple xs) = SeqAt.shaped (.list xs) := by
  unfold SeqAt.shaped
  rw [PyData.canLay0, PyData.canLay0, PyData.depth, PyData.depth]
end

/-! ### the readings of the operators -/
abbrev rEqs (K : PySem.W.Frag) : R2 := fun x y H Q => rEq x y H Q ∨ rEqD K x y H Q
abbrev rNes (K : PySem.W.Frag) : R2 := fun x y H Q => rNe x y H Q ∨ rNeD K x y H Q
theorem eq_pf {K : PySem.W.Frag} {H : Hp} {a b : D} {Q : VK} (fa : a.pf = true) (fb : b.pf = true) (q : Q (.bl (eqD a b)) H) : rEqs K (pfV a) (pfV b) H Q := by
  by_cases hs : scal (pfV a) (pfV b) = true
  · refine .inl ⟨hs, ?_⟩
    have e : decide (pfV a = pfV b) = eqD a b := by
      rw [← eqV_pf fa fb]
      cases a with
      | non => cases b with
        | non => rfl
        | bl _ => rfl
        | int _ => rfl
        | str _ => rfl
        | _ => cases fb
      | bl x => cases b with
        | non => rfl
        | bl y => exact dec_bl
        | int _ => cases hs
        | str _ => rfl
        | _ => cases fb
      | int x => cases b with
        | non => rfl
        | bl _ => cases hs
        | int y => exact dec_int
        | str _ => rfl
        | _ => cases fb
      | str x => cases b with
        | non => rfl
        | bl _ => rfl
        | int _ => rfl
        | str y => exact dec_str
        | _ => cases fb
      | _ => cases fa
    rw [e]
    exact q
  · refine .inr ⟨a.py, b.py, ?_⟩
    cases a with
    | non => cases b with
      | non => exact absurd rfl hs
      | bl _ => exact absurd rfl hs
      | int _ => exact absurd rfl hs
      | str _ => exact absurd rfl hs
      | _ => cases fb
    | bl x => cases b with
      | non => exact absurd rfl hs
      | bl y => exact absurd rfl hs
      | int _ => rw [D.py, D.py]; exact ⟨.bl _, .int _, rfl, rfl, by simpa [eqD, D.py] using q⟩
      | str _ => exact absurd rfl hs
      | _ => cases fb
    | int x => cases b with
      | non => exact absurd rfl hs
      | bl _ => rw [D.py, D.py]; exact ⟨.int _, .bl _, rfl, rfl, by simpa [eqD, D.py] using q⟩
      | int y => exact absurd rfl hs
      | str _ => exact absurd rfl hs
      | _ => cases fb
    | str x => cases b with
      | non => exact absurd rfl hs
      | bl _ => exact absurd rfl hs
      | int _ => exact absurd rfl hs
      | str y => exact absurd rfl hs
      | _ => cases fb
    | _ => cases fa
theorem ne_pf {K : PySem.W.Frag} {H : Hp} {a b : D} {Q : VK} (fa : a.pf = true) (fb : b.pf = true) (q : Q (.bl (!eqD a b)) H) : rNes K (pfV a) (pfV b) H Q := by
  have key : rEqs K (pfV a) (pfV b) H (fun v H' => ∀ k, v = .bl k → Q (.bl (!k)) H') := eq_pf fa fb fun k e => by cases e; exact q
  rcases key with ⟨h1, h2⟩ | ⟨d, e, h1, h2, h3, h4, h5⟩
  · exact .inl ⟨h1, h2 _ rfl⟩
  · exact .inr ⟨d, e, h1, h2, h3, h4, h5 _ rfl⟩
section
variable {X : Cx}
/-- in and not in: flat values in a list or a tuple, data in a list, in a tuple; a text in a text -/
def rInT (neg : Bool) (K : PySem.W.Frag) : R2 := fun x y H Q => ∃ d ds, Dp K H x d ∧ Dp K H y (.tuple ds) ∧ SeqAt.shaped d = true ∧ SeqAt.shaped (.tuple ds) = true ∧ Q (.bl (if neg then !ds.any fun z => PyData.eqv z d else ds.any fun z => PyData.eqv z d)) H
theorem op_inT (hu : X.A.units + 65 < cLine) : OpR X (compareOp .In) (rInT false X.K) := by
  intro pins s σ H x y v u Q I rx ry ⟨d, ds, hd, he, sd, se, q⟩
  obtain ⟨as, r1⟩ := Dp.reads I d x v hd rx
  obtain ⟨bs, r2⟩ := Dp.reads I (.tuple ds) y u he ry
  exact SeqAt.in_tuple_reads r2 r1 (by have := SeqAt.canLay_of_shaped se; rwa [PyData.canLay0] at this) (SeqAt.canLay_of_shaped sd) (room_in_shaped sd hu) ⟨.bl _, H, I, rfl, q⟩
theorem op_notInT (hu : X.A.units + 65 < cLine) : OpR X (compareOp .NotIn) (rInT true X.K) := by
  intro pins s σ H x y v u Q I rx ry ⟨d, ds, hd, he, sd, se, q⟩
  obtain ⟨as, r1⟩ := Dp.reads I d x v hd rx
  obtain ⟨bs, r2⟩ := Dp.reads I (.tuple ds) y u he ry
  exact SeqAt.notIn_tuple_reads r2 r1 (by have := SeqAt.canLay_of_shaped se; rwa [PyData.canLay0] at this) (SeqAt.canLay_of_shaped sd) (room_in_shaped sd hu) ⟨.bl _, H, I, rfl, q⟩
end
end DI

set_option Elab.async false
set_option linter.all false
set_option autoImplicit false
set_option maxRecDepth 100000
set_option maxHeartbeats 1000000
/-! DI2n: dicts whose keys are nested tuples. -/
namespace DI
open PySem PySem.Spec PyProof.Rows L2
section
variable {X : Cx} {pins : List (Addr × Obj)} {σ : L2.St} {H : Hp} {s : Shared}
mutual
theorem nk_is (I : Inv X pins σ H s) : ∀ {v : V} {d : D} {k : NestedKey} {u : Value}, Rp X.K H v d → d.nk = some k → RelV v u → NestedIs s.heap k u
  | _, _, _, _, .non, e, r => by
    rw [D.nk] at e; cases e; cases r; exact .none
  | _, _, _, _, .bl b, e, r => by
    rw [D.nk] at e; cases e; cases r; exact .bool rfl
  | _, _, _, _, .int i, e, r => by
    rw [D.nk] at e; cases e; obtain ⟨t, rfl⟩ := r; exact .int i t
  | _, _, _, _, .str x, e, r => by
    rw [D.nk] at e; cases e; obtain ⟨t, rfl⟩ := r; exact .text x t
  | _, _, _, _, .tup (ds := ds) h q, e, r => by
    rw [D.nk] at e
    cases r
    cases hk : nkA ds with
    | none => rw [hk] at e; cases e
    | some ks =>
      rw [hk] at e
      cases e
      obtain ⟨its, rv, ⟨o, h1, h2, n, h3⟩, _⟩ := I.tuple h
      exact .tup h1 h2 h3 (by simpa using nkA_is I q hk rv)
  | _, _, _, _, .lst _ _, e, _ => by rw [D.nk] at e <;> first | cases e | exact nofun
  | _, _, _, _, .dct _ _, e, _ => by rw [D.nk] at e <;> first | cases e | exact nofun
  | _, _, _, _, .opq _, e, _ => by rw [D.nk] at e <;> first | cases e | exact nofun
  | _, _, _, _, .scr _, e, _ => by rw [D.nk] at e <;> first | cases e | exact nofun
  | _, _, _, _, .dcn _ _, e, _ => by rw [D.nk] at e <;> first | cases e | exact nofun
theorem nkA_is (I : Inv X pins σ H s) : ∀ {vs : List V} {ds : List D} {ks : List NestedKey} {us : List Value}, RpA X.K H vs ds → nkA ds = some ks → Vals vs us → NestedAll s.heap ks us
  | _, _, _, _, .nil, e, r => by
    rw [nkA] at e; cases e; cases r; exact .nil
  | _, _, _, _, .cons (d := d) (ds := ds) h q, e, r => by
    cases r with
    | cons r1 r2 =>
      rw [nkA] at e
      split at e
      · rename_i k ks h1 h2
        cases e
        exact .cons (nk_is I h h1 r1) (nkA_is I q h2 r2)
      · cases e
end
/-- the keys of a dict that stands -/
theorem keys_is (I : Inv X pins σ H s) : ∀ {xs : List (NestedKey × Addr × Value)} {ds : List (NestedKey × D)}, RpN X.K H xs ds → ∀ x ∈ xs, (nestedKind X.prog X.w).is s.heap x.1 x.2.1
  | _, _, .nil, x, hx => nomatch hx
  | _, _, .cons h1 h2 h3 h4 h5 r, x, hx => by
    rcases List.mem_cons.mp hx with e | hx
    · subst e
      exact ⟨nk_is I h1 h2 rfl, h3⟩
    · exact keys_is I r x hx
theorem dn_of {a : Addr} {xs : List (NestedKey × Addr × Value)} {ds : List (NestedKey × D)} (I : Inv X pins σ H s) (e : H a = some (DnO (X.prog, X.w) a xs)) (r : RpN X.K H xs ds) :
    xs.length ≤ sizeLine ∧ (a == sysModules) = false ∧ s.heap.DictOfH (nestedKind X.prog X.w) a xs := by
  obtain ⟨⟨o, es, ep, h1, h2, h3, h4, h5, h6, h7⟩, _⟩ := (show ObjOk X.prog X.w H s.heap a (DnO (X.prog, X.w) a xs) from I.hok a _ e)
  exact ⟨h6, h7, o, es, ep, h1, h2, h3, h4, keys_is I r, h5⟩
theorem dn_ok {P : Program} {w : World} {H' : Hp} {h' : Heap} {a : Addr} {xs : List (NestedKey × Addr × Value)} (z : xs.length ≤ sizeLine) (hd : (a == sysModules) = false) (dd : h'.DictOfH (nestedKind P w) a xs) : ObjOk P w H' h' a (DnO (P, w) a xs) := by
  obtain ⟨o, es, ep, h1, h2, h3, h4, h5, h6⟩ := dd
  refine ⟨⟨o, es, ep, h1, h2, h3, h4, h6, z, hd⟩, ⟨o, h1⟩, fun g1 g2 q k => ?_⟩
  obtain ⟨o, es, ep, h1, h2, h3, h4, h5, h6, h7⟩ := q
  exact ⟨o, es, ep, k _ h1, h2, h3, h4, h5, h6, h7⟩
theorem room8 {A : Around} (h : A.units + 65 < cLine) : (nestedKind X.prog X.w).room A.in1 := by
  show A.in1.units + 8 < cLine
  have : A.in1.units = A.units + 1 := rfl
  omega
theorem atKey_any {K : PySem.W.Frag} {G : Hp} {k : NestedKey} : ∀ {xs : List (NestedKey × Addr × Value)} {ds : List (NestedKey × D)}, RpN K G xs ds → (atKey xs k).isSome = ds.any fun p => decide (p.1 = k)
  | _, _, .nil => rfl
  | _, _, .cons (k := k') h1 h2 h3 h4 h5 r => by
    have ih := atKey_any (k := k) r
    unfold atKey at ih ⊢
    rw [List.find?_cons, List.any_cons]
    by_cases e : k' = k
    · simp [e]
    · simp only [e, decide_false, Bool.false_or]
      exact ih
def rNin (W : Program × World) (neg : Bool) (K : PySem.W.Frag) : R2 := fun x y H Q => ∃ b a xs ds dk k, x = .ref b ∧ y = .ref a ∧ H a = some (DnO W a xs) ∧ RpN K H xs ds ∧ Rp K H (.ref b) dk ∧ dk.nk = some k ∧ k.depth ≤ 8 ∧
  Q (.bl (if neg then !(ds.any fun p => decide (p.1 = k)) else ds.any fun p => decide (p.1 = k))) H
theorem op_nin (hu : X.A.units + 65 < cLine) : OpR X (compareOp .In) (rNin (X.prog, X.w) false X.K) := by
  intro pins s σ H x y v u Q I rx ry h
  obtain ⟨b, a, xs, ds, dk, k, rfl, rfl, h1, h2, h3, h4, h5, q⟩ := h
  cases rx
  cases ry
  obtain ⟨z, hd, dd⟩ := dn_of I h1 h2
  refine wpAny_in_heap (room8 hu) ⟨nk_is I h3 h4 rfl, h5⟩ hd dd ?_
  rw [atKey_any h2]
  exact ⟨.bl _, H, I.tok _, rfl, q⟩
theorem op_nnin (hu : X.A.units + 65 < cLine) : OpR X (compareOp .NotIn) (rNin (X.prog, X.w) true X.K) := by
  intro pins s σ H x y v u Q I rx ry h
  obtain ⟨b, a, xs, ds, dk, k, rfl, rfl, h1, h2, h3, h4, h5, q⟩ := h
  cases rx
  cases ry
  obtain ⟨z, hd, dd⟩ := dn_of I h1 h2
  refine wpAny_notIn_heap (room8 hu) ⟨nk_is I h3 h4 rfl, h5⟩ hd dd ?_
  rw [atKey_any h2]
  exact ⟨.bl _, H, I.tok _, rfl, q⟩
/-- d[k] = v -/
def rSetN (W : Program × World) (K : PySem.W.Frag) : V → V → V → Hp → (Hp → Prop) → Prop := fun o i v H Q => ∃ a b xs ds dk k, o = .ref a ∧ i = .ref b ∧ H a = some (DnO W a xs) ∧ RpN K H xs ds ∧ Rp K H (.ref b) dk ∧ dk.nk = some k ∧ k.depth ≤ 8 ∧ xs.length < sizeLine ∧
  ∀ u, RelV v u → Q (upd H a (DnO W a (storedH xs k b u)))
theorem set_dn (hu : X.A.units + 65 < cLine) : PSet X (rSetN (X.prog, X.w) X.K) := by
  intro pins s σ H o i v ov iv u Q I ro ri rv h
  obtain ⟨a, b, xs, ds, dk, k, rfl, rfl, h1, h2, h3, h4, h5, h6, q⟩ := h
  cases ro
  cases ri
  obtain ⟨z, hd, dd⟩ := dn_of I h1 h2
  refine wpAny_setItem_heap (hsz := z) (room8 hu) ⟨nk_is I h3 h4 rfl, h5⟩ dd fun h' dd' hs => ?_
  have hl : (storedH xs k b u).length ≤ sizeLine := by have := storedH_length xs k b u; omega
  have he : ∃ q, h'.get? a = some q := let ⟨q, _, _, hq, _⟩ := dd'; ⟨q, hq⟩
  exact ⟨_, d_write I (by rw [h1]; exact True.intro) hs he (dn_ok hl hd dd'), q u rv⟩
theorem rpN_put {K : PySem.W.Frag} {G : Hp} {k : NestedKey} {b : Addr} {dk d : D} {v : V} {u : Value} {xs : List (NestedKey × Addr × Value)} {ds : List (NestedKey × D)} (r : RpN K G xs ds) (h1 : Rp K G (.ref b) dk) (h2 : dk.nk = some k) (h3 : k.depth ≤ 8) (h4 : RelV v u) (h5 : Rp K G v d) :
    RpN K G (storedH xs k b u) (putN ds k d) := by
  unfold storedH putN
  rw [atKey_any r]
  split
  · rename_i hh
    clear h1 hh
    induction xs generalizing ds with
    | nil => cases r; exact .nil
    | cons x xs ih =>
      cases r with
      | @cons k' b' u' v' dk' d' _ ds' q1 q2 q3 q4 q5 q6 =>
        have ih' := ih q6
        rw [List.map_cons, List.map_cons]
        by_cases e : k' = k
        · subst e
          have e1 : putAt k' u (k', b', u') = (k', b', u) := by unfold putAt; rw [if_pos rfl]
          rw [e1, if_pos rfl]
          exact .cons q1 q2 q3 h4 h5 ih'
        · have e1 : putAt k u (k', b', u') = (k', b', u') := by unfold putAt; rw [if_neg e]
          rw [e1, if_neg e]
          exact .cons q1 q2 q3 q4 q5 ih'
  · rename_i hh
    clear hh
    induction xs generalizing ds with
    | nil => cases r; exact .cons h1 h2 h3 h4 h5 .nil
    | cons x xs ih =>
      cases r with
      | cons q1 q2 q3 q4 q5 q6 => exact .cons q1 q2 q3 q4 q5 (ih q6)
/-- {k: v} -/
def tDn1 (W : Program × World) (K : PySem.W.Frag) (tk tv : TE) : TE := fun σ H Q => ∀ p, H p = none → tk σ (upd H p (.dK [])) fun x H1 => tv σ H1 fun y H2 => H2 p = some (.dK []) ∧
  ∃ b dk k, x = .ref b ∧ Rp K H2 (.ref b) dk ∧ dk.nk = some k ∧ k.depth ≤ 8 ∧ ∀ u, RelV y u → Q (.ref p) (upd H2 p (DnO W p [(k, b, u)]))
theorem pe_dn1 {k v : Expr} {tk tv : TE} {pos : Pos} (hu : X.A.units + 65 < cLine) (hk : PE X k tk) (hv : PE X v tv) : PE X (.Dict [some k] [v] pos) (tDn1 (X.prog, X.w) X.K tk tv) := by
  refine ⟨fun pins s σ H Q I q => ?_⟩
  have hn := I.hok.fresh (Nat.le_refl s.heap.objs.size)
  have I1 := I.laid (a := s.heap.objs.size) (o := .dK []) (h' := s.heap.push { cls := .type "dict", data := .dict #[] }) (t' := s.toks) (fun _ _ q => Heap.get?_push_of_some _ q) (Nat.le_refl _) (dk_empty s.heap I.big)
  have h15 : (pairTrees [some k] [v] X.env pos).length ≤ 15 := by
    rw [pairTrees_length _ _ _ _ rfl rfl]
    exact (by decide : 1 ≤ 15)
  have hne : pairTrees [some k] [v] X.env pos ≠ [] := fun z => by
    have := pairTrees_length [some k] [v] X.env pos rfl rfl
    rw [z] at this
    cases this
  have hp := (pps_cons hk hv (pps_nil (X := X) (pos := pos))).run pins _ σ _ (fun ps H2 => match ps with
    | [(x, y)] => H2 s.heap.objs.size = some (.dK []) ∧ ∃ b dk k, x = .ref b ∧ Rp X.K H2 (.ref b) dk ∧ dk.nk = some k ∧ k.depth ≤ 8 ∧ ∀ u, RelV y u → Q (.ref s.heap.objs.size) (upd H2 s.heap.objs.size (DnO (X.prog, X.w) s.heap.objs.size [(k, b, u)]))
    | _ => False) I1 (q _ hn)
  rw [arm_eval_Dict, zip_pairTrees _ _ _ _ rfl rfl, dictDisplay_pairs _ hne (by omega)]
  refine wpAny_bind (wpAny_standAt (wpAny_bind (wpAny_subDictH (knd := nestedKind X.prog X.w) (Q := fun d s' => wpAny (model X.prog X.w) X.A (pure (Value.ref d)) (EP X pins σ Q) X.xe s') (show X.A.units + 8 < cLine by omega) h15 (thn hp ?_))))
  rintro vs s2 ⟨ps, H2, I2, rel, q⟩
  split at q
  case h_2 => exact q.elim
  rename_i x y
  obtain ⟨e, b, dk, k, rfl, h1, h2, h3, q2⟩ := q
  cases rel with
  | cons r0 r1 =>
    cases r1
    rename_i w0
    obtain ⟨w1, w2⟩ := w0
    obtain ⟨ra, rb⟩ := r0
    cases ra
    obtain ⟨z, hd, vs0, r0, dd⟩ := dk_of I2.hok e
    cases r0
    have d0 : s2.heap.DictOfH (nestedKind X.prog X.w) s.heap.objs.size [] := by
      obtain ⟨o, es, ep, g1, g2, g3, _, g4, g5⟩ := dd
      have g6 : es.toList = [] := by
        cases e0 : es.toList with
        | nil => rfl
        | cons x xs => rw [e0] at g4; exact nomatch g4
      exact ⟨o, es, ep, g1, g2, g3, g6, fun x hx => (nomatch hx), by simp⟩
    refine ⟨[(k, b, w2)], ⟨rfl, rfl, ⟨nk_is I2 h1 h2 rfl, h3⟩, True.intro⟩, d0, fun h' tk dd' hs => wpAny_pure ?_⟩
    have he : ∃ q, h'.get? s.heap.objs.size = some q := let ⟨q, _, _, hq, _⟩ := dd'; ⟨q, hq⟩
    have hz : ([(k, b, w2)] : List (NestedKey × Addr × Value)).length ≤ sizeLine := (by rw [sizeLine_eq]; decide : 1 ≤ sizeLine)
    exact ⟨.ref s.heap.objs.size, _, d_write I2 (by rw [e]; exact True.intro) hs he (dn_ok hz hd dd'), rfl, q2 w2 rb⟩
end
end DI

set_option Elab.async false
set_option linter.all false
set_option autoImplicit false
set_option maxRecDepth 100000
set_option maxHeartbeats 3200000
/-! DI2s: set(list of ints), a list's item by value. -/
namespace DI
open PySem PySem.Spec PyProof.Rows L2
abbrev sob (w : World) : Obj := { cls := .type "set", dict := none, data := .set #[] 0 (.fresh 0 0 (!w.params.followText "set-order")) }
section
variable {P : Program} {w : World} {A : Around} {E : Value → Shared → Prop} {s : Shared}
theorem call_setI {l : Addr} {its : Array Value} (ns : List Int) {Q : Value → Shared → Prop} (hh : A.handled = none) (hl : s.heap.IsList l its) (hit : IntsAre its.toList ns) (hb : ns.length + 1 < scanBound)
    (h : ∀ (h' : Heap) (tk c : Nat), SetR w h' s.heap.objs.size (fun j => decide (j ∈ ns)) c → c ≤ ns.length → (∀ b o, s.heap.get? b = some o → h'.get? b = some o) → Q (.ref s.heap.objs.size) { s with heap := h', toks := tk }) :
    wpAny (model P w) A (call (.type "set") [.ref l]) Q E s := by
  have hisz : its.size = ns.length := by rw [← IntsAre.length hit, Array.length_toList]
  obtain ⟨c0, tl0, hmro⟩ := F.called_set.mro
  have k1 := F.called_set.made
  have k2 := F.called_set.sub
  refine wpAny_call (codeAny_of_tree ?_)
  show wpAny (model P w) _ (callAny (.type "set") ⟨[.ref l], []⟩) _ _ _
  refine wpAny_pure ⟨Code.quiet_builtin _ (by decide +kernel), codeAny_builtin F.entry_type_call ?_⟩
  rw [Around.under_plain (weight_type_call_type "set" [.ref l] []) rfl]
  have k3 := F.called_set.notType
  have k4 := F.called_set.canCreate
  have k5 := F.typeCall_set_1 (.ref l)
  repeat (any_goals (first | assumption | wp_step))
  refine codeAny_mono (code_set_led1 (.ref l) (E := E) (Q₁ := fun ob s1 => ob = .ref s.heap.objs.size ∧ s1 = { s with heap := s.heap.push (sob w) }) ⟨rfl, rfl⟩) fun r s1 hr => ?_
  cases r with
  | error e => exact hr
  | ok fl =>
    cases fl with
    | next => exact hr
    | brk => exact hr
    | cont => exact hr
    | ret ob =>
      obtain ⟨rfl, rfl⟩ := hr
      have hS : (s.heap.push (sob w)).get? s.heap.objs.size = some (sob w) := Heap.get?_push_size _ rfl
      have hT : Shared.TypeIs { s with heap := s.heap.push (sob w) } (.ref s.heap.objs.size) "set" := ⟨_, hS, rfl⟩
      have k6 := F.called_set.init.lookup
      have k7 := F.called_set.init.bind (.ref s.heap.objs.size)
      repeat (any_goals (first | assumption | wp_step))
      refine codeAny_mono (codeAny_call_builtin (R := wants (fun r s2 => r = .none ∧ ∃ h' tk c, s2 = { s with heap := h', toks := tk } ∧ SetR w h' s.heap.objs.size (fun j => decide (j ∈ ns)) c ∧ c ≤ ns.length ∧
          (∀ b o, s.heap.get? b = some o → h'.get? b = some o)) E) F.called_set.init.plain F.entry_set_init (check_set_init_1 hT ?_)) fun r2 s2 hr2 => ?_
      · obtain ⟨ol, hol, hcl, nl, hdl⟩ := hl
        obtain ⟨ocls, odict, odata, oslots⟩ := ol
        simp only at hcl hdl
        subst hcl
        subst hdl
        have hol' : (s.heap.push (sob w)).get? l = some { cls := .type "list", dict := odict, data := .seq its nl, slots := oslots } := Heap.get?_push_of_some _ hol
        have k8 := F.sub_list_set
        have k9 := F.sub_list_frozenset
        have k0 : (Value.type "list" == Value.type "dict") = false := by decide
        have hl1 : (s.heap.push (sob w)).IsList l its := ⟨_, hol', rfl, nl, rfl⟩
        unfold Builtin.«set.__init__» noKeywords Builtin.Frozenset.updateFrom
        generalize hPI : pyIter = PI
        wp_walk
        subst hPI
        refine wpAny_pyIter_list hl1 ?_
        refine wpAny_bind (wpAny_runValue ?_)
        have hlS : l < s.heap.objs.size := Heap.lt_size hol
        have hh3 : A.in1.in1.in1.handled = none := by simp [hh]
        have hneI : l ≠ (s.heap.push (sob w)).objs.size := by
          rw [Heap.size_push]
          exact Nat.ne_of_lt (Nat.lt_succ_of_lt hlS)
        have hSf : s.heap.objs.size ∉ [(s.heap.push (sob w)).objs.size, l] := by
          rw [Heap.size_push]
          simp only [List.mem_cons, List.mem_singleton, List.not_mem_nil, or_false, not_or]
          refine ⟨Nat.ne_of_lt (Nat.lt_succ_self _), Nat.ne_of_gt hlS⟩
        have hval : ∀ (i : Nat) (v : Value), its[i]? = some v → ∃ k t, ns[i]? = some k ∧ v = .int k t := fun i v hv => by
          have hi : i < ns.length := by rw [← hisz]; exact (Array.getElem?_eq_some_iff.mp hv).1
          obtain ⟨t, e⟩ := PyProof.Rows.IntsAre.int_at hit i v (by rw [Array.getElem?_toList]; exact hv)
          refine ⟨ns[i], t, List.getElem?_eq_getElem hi, ?_⟩
          rw [e, List.getD_eq_getElem?_getD, List.getElem?_eq_getElem hi] <;> rfl
        refine set_update_ints ((Walks.list hh3 _ l hneI its).toS) s.heap.objs.size
          hSf ns hisz hb hval (its.size - 0) 0 _ (by omega) (Nat.zero_le _)
          ⟨⟨_, Heap.get?_push_size _ rfl, rfl, rfl⟩, (hl1.push _)⟩ ?hS0 ?hR
        case hS0 =>
          have hget : ((s.heap.push (sob w)).push { cls := .type "list_iterator", data := .fields #[.ref l, .int 0 0] }).get? s.heap.objs.size = some (sob w) := Heap.get?_push_of_some _ hS
          exact ⟨0, Nat.le_refl 0, setR_new_at hget⟩
        case hR =>
          intro s' c' hm hc' hS'
          obtain ⟨h', g2, d', tk', os'⟩ := s'
          have eg : g2 = s.gens := hm.gens
          have ed : d' = s.drawn := hm.drawn
          have eo : os' = s.os := hm.os
          subst eg
          subst ed
          subst eo
          refine wpAny_pure ?_
          rw [hisz] at hc'
          refine wpAny_pure ⟨rfl, h', tk', c', rfl, hS', hc', fun b o e => ?_⟩
          have hb0 : b < s.heap.objs.size := Heap.lt_size e
          refine hm.heap b o ?_ (Heap.get?_push_of_some _ (Heap.get?_push_of_some _ e))
          rw [Heap.size_push]
          simp only [List.mem_cons, List.mem_singleton, List.not_mem_nil, or_false, not_or]
          exact ⟨Nat.ne_of_lt hb0, Nat.ne_of_lt (Nat.lt_succ_of_lt hb0)⟩
      · cases r2 with
        | error e => exact hr2
        | ok fl2 =>
          cases fl2 with
          | next => exact hr2.elim
          | brk => exact hr2.elim
          | cont => exact hr2.elim
          | ret rr =>
            obtain ⟨rfl, h', tk, c', rfl, hS', hc', hk'⟩ := hr2
            repeat (any_goals (first | assumption | wp_step))
            exact h h' tk c' hS' hc' hk'
end
section
variable {X : Cx}
/-- set(a list of ints) -/
def rSetLI (w : World) (K : PySem.W.Frag) : List V → Hp → VK → Prop := fun xs H Q => ∃ (a : Addr) (ns : List Int), xs = [.ref a] ∧ SqL K H a (ns.map V.int) ∧ ns.length < 64 ∧ ∀ p c, H p = none → c ≤ ns.length → Q (.ref p) (upd H p (SetO w p (fun j => decide (j ∈ ns)) c))
theorem cr_setLI (hc : X.calm = true) : CallR X (.type "set") (rSetLI X.w X.K) := by
  intro pins s σ H xs us Q I r h
  obtain ⟨a, ns, rfl, hq, h64, q⟩ := h
  rw [Vals.ref1 r]
  obtain ⟨its, rv, pl, hz⟩ := I.list hq
  refine call_setI ns (I.ok.hd hc) pl.isList (by simpa using ints_of_vals rv) (by unfold scanBound; omega) fun h' tk c R hcl hk => ?_
  exact ⟨.ref s.heap.objs.size, _, I.laid (t' := tk) hk (Nat.le_refl _) (setO_new R), rfl, q _ c (I.hok.fresh (Nat.le_refl _)) hcl⟩
/-- an item of a list, by values -/
theorem get_list : PGet X (rIxL X.K) := by
  intro pins s σ H o i ov iv Q I ro ri h
  obtain ⟨p, xs, k, z, rfl, rfl, hq, he, q⟩ := h
  cases ro
  obtain ⟨t, rfl⟩ := ri
  obtain ⟨its, r, pl, hz⟩ := I.list hq
  obtain ⟨j, h1, h2, h3, h4, h5⟩ := atI_get he
  obtain ⟨w, ew, rw'⟩ := r.get h2
  have hl := r.length
  have hn := line63
  have fin : EP X pins σ Q w s := ⟨z, H, I, rw', q⟩
  by_cases h0 : 0 ≤ k
  · have hj : k.toNat = j := by
      rw [seqIndex_of h0 h5] at h1
      exact Option.some.inj h1
    exact wpAny_getItem_list pl.isList h0 (by omega) (by rw [hj]; simpa using ew) fin
  · have hj : (k + (its.toArray.size : Int)).toNat = j := by
      rw [seqIndex_neg (by omega) h4] at h1
      rw [List.size_toArray, ← hl]
      exact Option.some.inj h1
    exact wpAny_getItem_list_neg pl.isList (by omega) (by rw [List.size_toArray] <;> omega) (by omega) (by rw [hj]; simpa using ew) fin
end
end DI

set_option Elab.async false
set_option linter.all false
set_option autoImplicit false
set_option maxRecDepth 100000
set_option maxHeartbeats 1000000
/-! DI2e: dicts with text keys, isinstance, count, lists of unlike lengths. -/
namespace DI
open PySem PySem.Spec PyProof.Rows L2
section
variable {X : Cx}
theorem call_lenDR : CallR X (.builtin "len") (fun xs H Q => ∃ a kvs, xs = [V.ref a] ∧ Rd H a (.dK kvs) ∧ Q (.int kvs.length) H) := by
  intro pins s σ H xs us Q I r h
  obtain ⟨a, kvs, rfl, ha, q⟩ := h
  obtain ⟨u, rfl, ru⟩ := vals1 r
  cases ru
  exact d_len I ha fun t s' I' => ⟨.int kvs.length, H, I', ⟨t, rfl⟩, q⟩
/-- d[k] -/
def rIxK : R2 := fun x y H Q => ∃ a kvs k v, x = .ref a ∧ Rd H a (.dK kvs) ∧ y = kV k ∧ valV kvs k = some v ∧ Q v H
theorem ix_dK : IxR X rIxK := by
  intro value slice pins s σ H x y v u Q I rx ry h hs
  obtain ⟨a, kvs, k, r, rfl, e, rfl, l, q⟩ := h
  obtain rfl : v = Value.ref a := rx
  obtain ⟨z, hd, vs, rel, dd⟩ := dk_rd I.hok e
  obtain ⟨w', hw, rw'⟩ := RelO.some_of (v := r) (o := valueAt vs k) (by rw [← l]; exact rel.val k)
  exact tail_any dd.mapOf.typeIs slot_dict_getitem.lookup (wpAny_getItem_of (kV_is ry) dd.mapOf hw ⟨r, H, I.tok _, rw', q⟩) hs
/-- lists of unlike lengths -/
def rLen (neg : Bool) (K : PySem.W.Frag) : R2 := fun x y H Q => ∃ a b xs ys, x = .ref a ∧ y = .ref b ∧ SqL K H a xs ∧ SqL K H b ys ∧ xs.length ≠ ys.length ∧ Q (.bl neg) H
theorem len_sz {xs ys : List V} {us ws : List Value} (h : xs.length ≠ ys.length) (r1 : Vals xs us) (r2 : Vals ys ws) : (us.toArray.size != ws.toArray.size) = true := by
  rw [List.size_toArray, List.size_toArray, ← r1.length, ← r2.length]
  simpa using h
theorem op_eqLen (hu : X.A.units + 65 < cLine) : OpR X (compareOp .Eq) (rLen false X.K) := by
  intro pins s σ H x y v u Q I rx ry h
  obtain ⟨a, b, xs, ys, rfl, rfl, h1, h2, hne, q⟩ := h
  cases rx
  cases ry
  obtain ⟨its, r1, p1, _⟩ := I.list h1
  obtain ⟨its2, r2, p2, _⟩ := I.list h2
  exact SeqAt.RcAt.lists_lengths p1.isList p2.isList (len_sz hne r1 r2) (by omega) _ _ _ _ ⟨.bl false, H, I, rfl, q⟩
theorem op_neLen (hu : X.A.units + 65 < cLine) : OpR X (compareOp .NotEq) (rLen true X.K) := by
  intro pins s σ H x y v u Q I rx ry h
  obtain ⟨a, b, xs, ys, rfl, rfl, h1, h2, hne, q⟩ := h
  cases rx
  cases ry
  obtain ⟨its, r1, p1, _⟩ := I.list h1
  obtain ⟨its2, r2, p2, _⟩ := I.list h2
  exact SeqAt.RcNeAt.lists_lengths p1.isList p2.isList (len_sz hne r1 r2) (by omega) _ _ _ _ ⟨.bl true, H, I, rfl, q⟩
/-- isinstance(x, (c1, c2, ..)), the tuple of any kind -/
def rIsiS (K : PySem.W.Frag) : List V → Hp → VK → Prop := fun xs H Q => ∃ (x : V) (tp : Addr) (cs : List V) (t : Value) (us : List Value) (b : Bool), xs = [x, .ref tp] ∧ SqT K H tp cs ∧ Paired ClsV cs us ∧ TyX K H x t ∧ PySem.W.kitAny K t us = some b ∧ Q (.bl b) H
theorem call_isiS : CallR X (.builtin "isinstance") (rIsiS X.K) := by
  intro pins s σ H xs us Q I r h
  obtain ⟨x, tp, cs, t, ws, b, rfl, hT, k, ty, e, q⟩ := h
  obtain ⟨u1, u2, rfl, r1, r2⟩ := vals2 r
  cases (show u2 = Value.ref tp from r2)
  obtain ⟨P, Z, p, hx⟩ := kit_of I r1 ty
  obtain ⟨its, rv, ⟨o, h1, h2, n, h3⟩, _⟩ := I.tuple hT
  have e3 := ClsV.all k rv
  subst e3
  obtain ⟨oc, od, dt, sl⟩ := o
  simp only at h2 h3
  subst h2 h3
  exact PySem.W.kia_tup Z I.kIn p h1 e hx fun tk => ⟨.bl b, H, I.tok tk, rfl, q⟩
/-- d[k] = v, a text for a key -/
def rSetK : V → V → V → Hp → (Hp → Prop) → Prop := fun o i v H Q => ∃ a kvs k, o = .ref a ∧ i = kV k ∧ H a = some (.dK kvs) ∧ kvs.length < sizeLine ∧ Q (upd H a (.dK (putK kvs k v)))
theorem set_dK (hu : X.A.units + 65 < cLine) : PSet X rSetK := by
  intro pins s σ H o i v ov iv u Q I ro ri rv h
  obtain ⟨a, kvs, k, rfl, rfl, h1, h2, q⟩ := h
  cases ro
  exact d_setItem (by omega) I (DPut.k h1 h2) ri rv fun s' I' => ⟨_, I', q⟩
theorem pset_or {t t' : TSet} (h : PSet X t) (h' : PSet X t') : PSet X (fun o i v H Q => t o i v H Q ∨ t' o i v H Q) := fun pins s σ H o i v ov iv u Q I r1 r2 r3 q => q.elim (h pins s σ H o i v ov iv u Q I r1 r2 r3) (h' pins s σ H o i v ov iv u Q I r1 r2 r3)
/-- l.count(x), texts -/
def rCnt (K : PySem.W.Frag) : V → List V → Hp → VK → Prop := fun x xs H Q => ∃ (a : Addr) (ss : List Str) (z : Str), x = .ref a ∧ xs = [.str z] ∧ SqL K H a (ss.map V.str) ∧ Q (.int (ss.countP fun w => decide (w = z) : Nat)) H
theorem holds_strs {h : Heap} : ∀ {ss : List Str} {us : List Value}, Vals (ss.map V.str) us → PySem.W.HoldAll h us ss
  | [], us, r => by cases r; exact PySem.W.HoldAll.nil
  | x :: ss, us, r => by
    cases r with
    | cons r1 r2 =>
      obtain ⟨t, rfl⟩ := r1
      exact PySem.W.HoldAll.cons (PySem.W.holds_str ..) (holds_strs r2)
theorem mt_cnt (hu : X.A.units + 65 < cLine) : MtR X "list.count" (rCnt X.K) := by
  intro pins s σ H x xs v us Q I rx rv h
  obtain ⟨a, ss, z, rfl, rfl, h1, q⟩ := h
  cases rx
  obtain ⟨u, rfl, ru⟩ := rv.one
  obtain ⟨t, rfl⟩ := ru
  obtain ⟨its, r1, p1, _⟩ := I.list h1
  refine PySem.W.count_list_datum p1.isList (xs := ss) (x := z) (by simpa using holds_strs r1) (PySem.W.holds_str ..) (by show X.A.units + 1 + 0 < cLine; omega) ⟨.int _, H, I.tok _, ⟨_, rfl⟩, q⟩
end
/-! ### dicts with keys ints and texts -/
theorem keyD_kD (k : Key) : keyD (kD k) = some k := by cases k <;> rfl
section
variable {K : PySem.W.Frag} {G : Hp}
theorem RpK.val {kvs : List (Key × V)} {ds : List (D × D)} (h : RpK K G kvs ds) {k : Key} {d : D} (e : valD ds k = some d) : ∃ v, valV kvs k = some v ∧ Rp K G v d := by
  induction kvs generalizing ds with
  | nil => cases h; cases e
  | cons p kvs ih =>
    cases h with
    | @cons k' v' d' _ ds' a b =>
      rw [valD] at e
      rw [keyD_kD] at e
      by_cases hk : k' = k
      · subst hk
        rw [if_pos rfl] at e
        cases e
        exact ⟨v', valV_pos rfl, a⟩
      · rw [if_neg (fun z => hk (Option.some.inj z))] at e
        obtain ⟨v, h1, h2⟩ := ih b e
        exact ⟨v, by rw [valV_neg hk]; exact h1, h2⟩
theorem RpK.has {kvs : List (Key × V)} {ds : List (D × D)} (h : RpK K G kvs ds) (k : Key) : (kvs.any fun kv => decide (kv.1 = k)) = hasD ds k := by
  induction kvs generalizing ds with
  | nil => cases h; rfl
  | cons p kvs ih =>
    cases h with
    | @cons k' v' d' _ ds' a b =>
      unfold hasD at *
      rw [List.any_cons, List.any_cons, ih b, keyD_kD]
      congr 1
      rw [Bool.eq_iff_iff]
      simp
theorem RpK.put {kvs : List (Key × V)} {ds : List (D × D)} (h : RpK K G kvs ds) (k : Key) {v : V} {d : D} (r : Rp K G v d) : RpK K G (putK kvs k v) (putDD ds k d) := by
  have e := h.has k
  unfold putK putDD
  by_cases hh : hasD ds k = true
  · rw [if_pos hh, if_pos (by rw [e]; exact hh)]
    clear hh e
    induction kvs generalizing ds with
    | nil => cases h; exact .nil
    | cons p kvs ih =>
      cases h with
      | @cons k' v' d' _ ds' a b =>
        rw [List.map_cons, List.map_cons]
        by_cases hk : k' = k
        · subst hk
          rw [if_pos rfl, if_pos (keyD_kD _)]
          exact .cons r (ih b)
        · rw [if_neg hk, if_neg (fun z => hk (by rw [keyD_kD] at z; exact Option.some.inj z))]
          exact .cons a (ih b)
  · rw [if_neg hh, if_neg (by rw [e]; exact hh)]
    clear hh e
    induction kvs generalizing ds with
    | nil => cases h; exact .cons r .nil
    | cons p kvs ih =>
      cases h with
      | cons a b => exact .cons a (ih b)
theorem RpK.merge {kvs : List (Key × V)} {ds : List (D × D)} (h : RpK K G kvs ds) : ∀ {more : List (Key × V)} {ms : List (Key × D)}, Paired (fun p q => p.1 = q.1 ∧ Rp K G p.2 q.2) more ms → RpK K G (mergeK kvs more) (mergeDD ds ms) := by
  intro more ms r
  induction r generalizing kvs ds with
  | nil => exact h
  | @cons p q ps qs hq t ih =>
    obtain ⟨e, hr⟩ := hq
    have := h.put p.1 hr
    show RpK K G (mergeK (putK kvs p.1 p.2) ps) (mergeDD (putDD ds q.1 q.2) qs)
    rw [← e]
    exact ih this
theorem RpK.keys {kvs : List (Key × V)} {ds : List (D × D)} (h : RpK K G kvs ds) : ds.map (·.1) = kvs.map fun p => kD p.1 := by
  induction kvs generalizing ds with
  | nil => cases h; rfl
  | cons p kvs ih =>
    cases h with
    | cons a b => rw [List.map_cons, List.map_cons, ih b]
theorem keys_str {kvs : List (Key × V)} {ks : List Str} (h : kvs.map (fun p => kD p.1) = ks.map D.str) : kvs.map (·.1) = ks.map Sum.inr := by
  induction kvs generalizing ks with
  | nil => cases ks with
    | nil => rfl
    | cons k ks => cases h
  | cons p kvs ih => cases ks with
    | nil => cases h
    | cons k ks =>
      rw [List.map_cons, List.map_cons] at h
      injection h with h1 h2
      rw [List.map_cons, List.map_cons, ih h2]
      congr 1
      cases e : p.1 with
      | inl i => rw [e] at h1; cases h1
      | inr x => rw [e] at h1; cases h1; rfl
theorem RpA.pairs {vs : List V} {kvs : List (Key × D)} (h : RpA K G vs (kvs.map fun p => D.tup [kD p.1, p.2])) : ∃ (ps : List Addr) (ms : List (Key × V)), vs = ps.map V.ref ∧ Paired (fun p kv => SqT K G p [kV kv.1, kv.2]) ps ms ∧ Paired (fun p q => p.1 = q.1 ∧ Rp K G p.2 q.2) ms kvs := by
  induction kvs generalizing vs with
  | nil => cases h; exact ⟨[], [], rfl, .nil, .nil⟩
  | cons p kvs ih =>
    rw [List.map_cons] at h
    cases h with
    | cons a b =>
      obtain ⟨ps, ms, rfl, h1, h2⟩ := ih b
      cases a with
      | @tup a vs' _ q1 q2 =>
        cases q2 with
        | cons r1 r2 => cases r2 with
          | cons r3 r4 =>
            cases r4
            rename_i v1 v2
            have e : v1 = kV p.1 := by
              obtain ⟨k, d⟩ := p
              cases k with
              | inl i => cases r1; rfl
              | inr x => cases r1; rfl
            subst e
            exact ⟨a :: ps, (p.1, v2) :: ms, rfl, .cons q1 h1, .cons ⟨rfl, r3⟩ h2⟩
end
end DI

set_option Elab.async false
set_option linter.all false
set_option autoImplicit false
set_option maxRecDepth 100000
set_option maxHeartbeats 1000000
/-! DI2b: each operator's reading holds what is asked over data. -/
namespace DI
open PySem PySem.Spec PyProof.Rows L2

def rStrAdd : R2 := fun x y H Q => ∃ i j, x = .str i ∧ y = .str j ∧ i.length + j.length ≤ sizeLine ∧ Q (.str (i ++ j)) H
def rStrIn (neg : Bool) : R2 := fun x y H Q => ∃ i j, x = .str i ∧ y = .str j ∧ Q (.bl (if neg then !(!(Builtin.Str.occurrences j i 0 j.length 1).isEmpty) else !(Builtin.Str.occurrences j i 0 j.length 1).isEmpty)) H
def rIs0 (neg : Bool) : R2 := fun x y H Q => y = .non ∧ Q (.bl (if neg then !decide (x = .non) else decide (x = .non))) H
def rIsB0 (neg : Bool) : R2 := fun x y H Q => ∃ a b : Bool, x = .bl a ∧ y = .bl b ∧ Q (.bl (if neg then !decide (a = b) else decide (a = b))) H
def rd2 (W : Program × World) (o : O2) (K : PySem.W.Frag) : R2 := match o with
  | .add => fun x y H Q => rI0 (fun i j => .int (i + j)) x y H Q ∨ rStrAdd x y H Q ∨ rCat x y H Q ∨ rCatA K x y H Q
  | .sub => rI0 fun i j => .int (i - j)
  | .mul => fun x y H Q => rI CMul (fun i j => .int (i * j)) x y H Q ∨ rRep x y H Q
  | .mod => rI (fun _ j => 0 < j) fun i j => .int (i % j)
  | .fdiv => rI CDiv fun i j => .int (i / j)
  | .pow => rI CPow fun i j => .int (i ^ j.toNat)
  | .eq => fun x y H Q => rEqs K x y H Q ∨ rLen false K x y H Q
  | .ne => fun x y H Q => rNes K x y H Q ∨ rLen true K x y H Q
  | .lt => rI0 fun i j => .bl (decide (i < j))
  | .le => rI0 fun i j => .bl (decide (i ≤ j))
  | .gt => rI0 fun i j => .bl (decide (j < i))
  | .ge => rI0 fun i j => .bl (decide (j ≤ i))
  | .isin => fun x y H Q => rIn K false x y H Q ∨ rInD K x y H Q ∨ rInT false K x y H Q ∨ rStrIn false x y H Q ∨ rNin W false K x y H Q
  | .notin => fun x y H Q => rIn K true x y H Q ∨ rNotInD K x y H Q ∨ rInT true K x y H Q ∨ rStrIn true x y H Q ∨ rNin W true K x y H Q
  | .is => fun x y H Q => rIsB0 false x y H Q ∨ rIs0 false x y H Q
  | .isnot => fun x y H Q => rIsB0 true x y H Q ∨ rIs0 true x y H Q
  | .ix => fun x y H Q => rIx K x y H Q ∨ rIxK x y H Q
inductive Sort2 where
  | bin (op : Operator)
  | cmp (op : CmpOp)
  | idx
def O2.sort : O2 → Sort2
  | .add => .bin .Add
  | .sub => .bin .Sub
  | .mul => .bin .Mult
  | .mod => .bin .Mod
  | .fdiv => .bin .FloorDiv
  | .pow => .bin .Pow
  | .eq => .cmp .Eq
  | .ne => .cmp .NotEq
  | .lt => .cmp .Lt
  | .le => .cmp .LtE
  | .gt => .cmp .Gt
  | .ge => .cmp .GtE
  | .isin => .cmp .In
  | .notin => .cmp .NotIn
  | .is => .cmp .Is
  | .isnot => .cmp .IsNot
  | .ix => .idx
section
variable {X : Cx}
theorem opr_bin {o : O2} {op : Operator} (h : o.sort = .bin op) : OpR X (binaryOp op) (rd2 (X.prog, X.w) o X.K) := by
  cases o <;> cases h
  · exact op_add.or (op_add_str.or (op_cat.or op_catA))
  · exact op_sub
  · exact op_mul.or op_rep
  · exact op_mod
  · exact op_fdiv
  · exact op_pow
theorem opr_cmp {o : O2} {op : CmpOp} (hu : X.A.units + 65 < cLine) (h : o.sort = .cmp op) : OpR X (compareOp op) (rd2 (X.prog, X.w) o X.K) := by
  cases o <;> cases h
  · exact (op_eq.or (op_eqD (by omega))).or (op_eqLen hu)
  · exact (op_ne.or (op_neD (by omega))).or (op_neLen hu)
  · exact op_lt
  · exact op_le
  · exact op_gt
  · exact op_ge
  · exact op_in_seq.or ((op_inD hu).or ((op_inT hu).or (op_in_str.or (op_nin hu))))
  · exact op_notIn_seq.or ((op_notInD hu).or ((op_notInT hu).or (op_notIn_str.or (op_nnin hu))))
  · exact op_isBl.or op_isN
  · exact op_notBl.or op_notN
theorem opr_ix {o : O2} (h : o.sort = .idx) : IxR X (rd2 (X.prog, X.w) o X.K) := by
  cases o <;> cases h
  exact ix_seq.or ix_dK
end

section
variable {F : Fr} {G H : Hp} {σ : L2.St} {ρ : Sta} {Q : VK}
theorem atI_rel {K : PySem.W.Frag} {vs : List V} {ds : List D} {i : Int} {d : D} (h : RpA K G vs ds) (e : atI ds i = some d) : ∃ v, atI vs i = some v ∧ Rp K G v d := by
  unfold atI at e ⊢
  rw [h.length]
  cases q : ixN ds.length i with
  | none => rw [q] at e; cases e
  | some j => rw [q] at e; exact h.get e
theorem rep_rel {K : PySem.W.Frag} {vs : List V} {ds : List D} (h : RpA K G vs ds) : ∀ k : Nat, RpA K G (List.replicate k vs).flatten (List.replicate k ds).flatten
  | 0 => .nil
  | k + 1 => by
    rw [List.replicate_succ, List.replicate_succ, List.flatten_cons, List.flatten_cons]
    exact h.append (rep_rel h k)
/-- what an operator gives is handed on -/
abbrev Gv (F : Fr) (G H : Hp) (σ : L2.St) (ρ : Sta) (P : R → Prop) (Q : VK) : Prop := ∀ z v G' H', P z → Gw G H G' H' → RR F G' H' σ ρ v z → Q v H'
theorem Gv.fz {P : R → Prop} {d : D} {v : V} (r : Rl F G H σ ρ) (f : Gv F G H σ ρ P Q) (p : P (.fz d)) (q : Rp F.K G v d) : Q v H := f _ v G H p (Gw.refl r.sub) q
theorem Gv.tup {P : R → Prop} {ds : List D} {vs : List V} {p : Addr} (r : Rl F G H σ ρ) (f : Gv F G H σ ρ P Q) (pz : P (.fz (.tup ds))) (q : RpA F.K G vs ds) (hp : H p = none) : Q (.ref p) (upd H p (.tup vs)) :=
  f _ _ (upd G p (.tup vs)) _ pz (Gw.newF r.sub hp) (.tup (SqT.of upd_same) (q.mono (same_new (r.gnone hp))))
theorem Gv.lst {P : R → Prop} {ds : List D} {vs : List V} {p : Addr} (r : Rl F G H σ ρ) (f : Gv F G H σ ρ P Q) (pz : P (.ow (.lst ds))) (q : RpA F.K G vs ds) (hp : H p = none) : Q (.ref p) (upd H p (.lst vs)) :=
  f _ _ G _ pz (Gw.new r.sub hp) ⟨p, rfl, r.nw hp ⟨vs, upd_same, q⟩⟩
theorem Rp.non_iff {K : PySem.W.Frag} {v : V} {d : D} (h : Rp K G v d) (o : d.ok = true) : decide (v = V.non) = isNon d := by
  cases h with
  | opq v => rw [D.ok] at o; cases o
  | _ => rfl

theorem atI_map {α β : Type} {f : α → β} {xs : List α} {i : Int} : atI (xs.map f) i = (atI xs i).map f := by
  unfold atI
  rw [List.length_map]
  cases ixN xs.length i with
  | none => rfl
  | some j => simp
theorem lenNe_of {a b : D} (h : lenNe a b) : ∃ xs ys, a = .lst xs ∧ b = .lst ys ∧ xs.length ≠ ys.length := by
  unfold lenNe at h
  split at h
  · exact ⟨_, _, rfl, rfl, h⟩
  · exact h.elim
theorem pyA_len : ∀ xs : List D, (pyA xs).length = xs.length
  | [] => rfl
  | x :: xs => by rw [pyA, List.length_cons, List.length_cons, pyA_len xs]
theorem eqD_len {xs ys : List D} (h : xs.length ≠ ys.length) : eqD (.lst xs) (.lst ys) = false := by
  unfold eqD
  rw [D.py, D.py, PyData.eqv]
  exact SeqAt.eqvAll_other_length (by rw [pyA_len, pyA_len]; exact h)
theorem lift2 {W : Program × World} {o : O2} {x y : V} {a b : D} {P : R → Prop} (r : Rl F G H σ ρ) (ra : Ro F.K G H x a) (rb : Ro F.K G H y b) (h : sem2 W o a b P) (f : Gv F G H σ ρ P Q) : rd2 W o F.K x y H Q := by
  cases o with
  | add =>
    simp only [sem2] at h
    split at h
    · exact .inl ⟨_, _, ra.int, rb.int, f.fz r h (.int _)⟩
    · exact .inr (.inl ⟨_, _, ra.str, rb.str, h.1, f.fz r h.2 (.str _)⟩)
    · obtain ⟨p, vs, rfl, h1, h2⟩ := ra
      obtain ⟨q, ws, rfl, h3, h4⟩ := rb
      refine .inr (.inr (.inl ⟨p, q, vs, ws, rfl, rfl, h1, h3, ?_, fun l hl => f.lst r h.2 (h2.append h4) hl⟩))
      rw [h2.length, h4.length]; exact h.1
    · obtain ⟨p, vs, rfl, h1, h2, h1'⟩ := ra.tup r.sub
      obtain ⟨q, ws, rfl, h3, h4, h3'⟩ := rb.tup r.sub
      refine .inr (.inr (.inr ⟨p, q, vs, ws, rfl, rfl, h1, h3, by rw [h2.length, h4.length]; exact h.1, ?_, ?_, ?_⟩))
      · intro e
        subst e
        cases h2
        exact f.fz r (by simpa using h.2) (.tup h3' h4)
      · intro _ e
        subst e
        cases h4
        exact f.fz r (by simpa using h.2) (.tup h1' h2)
      · intro _ _ l hl
        exact f.tup r h.2 (h2.append h4) hl
    · exact h.elim
  | sub =>
    simp only [sem2] at h
    split at h
    · exact ⟨_, _, ra.int, rb.int, f.fz r h (.int _)⟩
    · exact h.elim
  | mul =>
    simp only [sem2] at h
    split at h
    · exact .inl ⟨_, _, ra.int, rb.int, h.1, f.fz r h.2 (.int _)⟩
    · obtain ⟨p, vs, rfl, h1, h2⟩ := ra
      refine .inr ⟨p, _, vs, rfl, rb.int, h1, h.1, h.2.1, by rw [h2.length]; exact h.2.2.1, fun l hl => f.lst r h.2.2.2 (rep_rel h2 _) hl⟩
    · exact h.elim
  | mod =>
    simp only [sem2] at h
    split at h
    · exact ⟨_, _, ra.int, rb.int, h.1, f.fz r h.2 (.int _)⟩
    · exact h.elim
  | fdiv =>
    simp only [sem2] at h
    split at h
    · exact ⟨_, _, ra.int, rb.int, h.1, f.fz r h.2 (.int _)⟩
    · exact h.elim
  | pow =>
    simp only [sem2] at h
    split at h
    · exact ⟨_, _, ra.int, rb.int, h.1, f.fz r h.2 (.int _)⟩
    · exact h.elim
  | eq =>
    obtain ⟨h1, h2⟩ := h
    rcases h1 with ⟨fa, fb⟩ | ⟨ca, cb⟩ | hl
    · rw [ra.pf fa, rb.pf fb]
      exact .inl (eq_pf fa fb (f.fz r h2 (.bl _)))
    · exact .inl (.inr ⟨a.py, b.py, ra.dp r.sub ca, rb.dp r.sub cb, (cmp_of ca).2, (cmp_of cb).2, f.fz r h2 (.bl _)⟩)
    · obtain ⟨xs, ys, rfl, rfl, hl⟩ := lenNe_of hl
      obtain ⟨p, vs, rfl, q1, q2⟩ := ra
      obtain ⟨q, ws, rfl, q3, q4⟩ := rb
      rw [eqD_len hl] at h2
      exact .inr ⟨p, q, vs, ws, rfl, rfl, SqL.of q1, SqL.of q3, by rw [q2.length, q4.length]; exact hl, f.fz r h2 (.bl _)⟩
  | ne =>
    obtain ⟨h1, h2⟩ := h
    rcases h1 with ⟨fa, fb⟩ | ⟨ca, cb⟩ | hl
    · rw [ra.pf fa, rb.pf fb]
      exact .inl (ne_pf fa fb (f.fz r h2 (.bl _)))
    · exact .inl (.inr ⟨a.py, b.py, ra.dp r.sub ca, rb.dp r.sub cb, (cmp_of ca).2, (cmp_of cb).2, f.fz r h2 (.bl _)⟩)
    · obtain ⟨xs, ys, rfl, rfl, hl⟩ := lenNe_of hl
      obtain ⟨p, vs, rfl, q1, q2⟩ := ra
      obtain ⟨q, ws, rfl, q3, q4⟩ := rb
      rw [eqD_len hl] at h2
      exact .inr ⟨p, q, vs, ws, rfl, rfl, SqL.of q1, SqL.of q3, by rw [q2.length, q4.length]; exact hl, f.fz r h2 (.bl _)⟩
  | lt =>
    simp only [sem2, semCmp] at h
    split at h
    · exact ⟨_, _, ra.int, rb.int, f.fz r h (.bl _)⟩
    · exact h.elim
  | le =>
    simp only [sem2, semCmp] at h
    split at h
    · exact ⟨_, _, ra.int, rb.int, f.fz r h (.bl _)⟩
    · exact h.elim
  | gt =>
    simp only [sem2, semCmp] at h
    split at h
    · exact ⟨_, _, ra.int, rb.int, f.fz r h (.bl _)⟩
    · exact h.elim
  | ge =>
    simp only [sem2, semCmp] at h
    split at h
    · exact ⟨_, _, ra.int, rb.int, f.fz r h (.bl _)⟩
    · exact h.elim
  | isin =>
    simp only [sem2, semIn] at h
    split at h
    · rename_i xs
      obtain ⟨h1, h2⟩ := h
      rcases h1 with ⟨fa, fb⟩ | ⟨ca, cb⟩
      · obtain ⟨p, vs, rfl, e1, e2⟩ := rb
        refine .inl ⟨p, vs, rfl, .inl (SqL.of e1), by rw [ra.pf fa]; exact pf_flat fa, by rw [e2.pf fb]; exact pf_flatA fb, ?_⟩
        rw [ra.pf fa, e2.pf fb, inV_pf fa fb]
        exact f.fz r h2 (.bl _)
      · refine .inr (.inl ⟨a.py, pyA xs, ra.dp r.sub ca, ?_, (cmp_of ca).2, ?_, ?_⟩)
        · have q := rb.dp r.sub cb
          rwa [D.py] at q
        · have q := (cmp_of cb).2
          rwa [D.py] at q
        · rw [any_py]
          exact f.fz r h2 (.bl _)
    · rename_i xs
      obtain ⟨h1, h2⟩ := h
      rcases h1 with ⟨fa, fb⟩ | ⟨ca, cb⟩
      · obtain ⟨p, vs, rfl, e1, e2, _⟩ := rb.tup r.sub
        refine .inl ⟨p, vs, rfl, .inr e1, by rw [ra.pf fa]; exact pf_flat fa, by rw [e2.pf fb]; exact pf_flatA fb, ?_⟩
        rw [ra.pf fa, e2.pf fb, inV_pf fa fb]
        exact f.fz r h2 (.bl _)
      · have cb2 := (cmp_of cb).2
        rw [D.py] at cb2
        have ok2 := (cmp_of cb).1
        rw [D.ok] at ok2
        refine .inr (.inr (.inl ⟨a.py, pyA xs, ra.dp r.sub ca, ?_, (cmp_of ca).2, ?_, ?_⟩))
        · have q := (rb.rp r.sub).dp (by rw [D.ok]; exact ok2) (by rw [D.py, PyData.canLay0]; have := SeqAt.canLay_of_shaped cb2; rwa [PyData.canLay0] at this)
          rwa [D.py] at q
        · rw [shaped_tup]; exact cb2
        · rw [any_py]
          exact f.fz r h2 (.bl _)
    · split at h
      · exact .inr (.inr (.inr (.inl ⟨_, _, ra.str, rb.str, f.fz r h (.bl _)⟩)))
      · exact h.elim
    · split at h
      · obtain ⟨rfl, k, h1, h2, h3⟩ := h
        obtain ⟨a0, xs0, rfl, e1, e2⟩ := rb
        obtain ⟨b0, vs0, rfl, e3, e4, e5⟩ := ra.tup r.sub
        exact .inr (.inr (.inr (.inr ⟨b0, a0, xs0, _, _, k, rfl, rfl, e1, e2.mono r.sub, .tup e3 (e4.mono r.sub), h1, h2, f.fz r h3 (.bl _)⟩)))
      · exact h.elim
    · exact h.elim
  | notin =>
    simp only [sem2, semIn] at h
    split at h
    · rename_i xs
      obtain ⟨h1, h2⟩ := h
      rcases h1 with ⟨fa, fb⟩ | ⟨ca, cb⟩
      · obtain ⟨p, vs, rfl, e1, e2⟩ := rb
        refine .inl ⟨p, vs, rfl, .inl (SqL.of e1), by rw [ra.pf fa]; exact pf_flat fa, by rw [e2.pf fb]; exact pf_flatA fb, ?_⟩
        rw [ra.pf fa, e2.pf fb, inV_pf fa fb]
        exact f.fz r h2 (.bl _)
      · refine .inr (.inl ⟨a.py, pyA xs, ra.dp r.sub ca, ?_, (cmp_of ca).2, ?_, ?_⟩)
        · have q := rb.dp r.sub cb
          rwa [D.py] at q
        · have q := (cmp_of cb).2
          rwa [D.py] at q
        · rw [any_py]
          exact f.fz r h2 (.bl _)
    · rename_i xs
      obtain ⟨h1, h2⟩ := h
      rcases h1 with ⟨fa, fb⟩ | ⟨ca, cb⟩
      · obtain ⟨p, vs, rfl, e1, e2, _⟩ := rb.tup r.sub
        refine .inl ⟨p, vs, rfl, .inr e1, by rw [ra.pf fa]; exact pf_flat fa, by rw [e2.pf fb]; exact pf_flatA fb, ?_⟩
        rw [ra.pf fa, e2.pf fb, inV_pf fa fb]
        exact f.fz r h2 (.bl _)
      · have cb2 := (cmp_of cb).2
        rw [D.py] at cb2
        have ok2 := (cmp_of cb).1
        rw [D.ok] at ok2
        refine .inr (.inr (.inl ⟨a.py, pyA xs, ra.dp r.sub ca, ?_, (cmp_of ca).2, ?_, ?_⟩))
        · have q := (rb.rp r.sub).dp (by rw [D.ok]; exact ok2) (by rw [D.py, PyData.canLay0]; have := SeqAt.canLay_of_shaped cb2; rwa [PyData.canLay0] at this)
          rwa [D.py] at q
        · rw [shaped_tup]; exact cb2
        · rw [any_py]
          exact f.fz r h2 (.bl _)
    · split at h
      · exact .inr (.inr (.inr (.inl ⟨_, _, ra.str, rb.str, f.fz r h (.bl _)⟩)))
      · exact h.elim
    · split at h
      · obtain ⟨rfl, k, h1, h2, h3⟩ := h
        obtain ⟨a0, xs0, rfl, e1, e2⟩ := rb
        obtain ⟨b0, vs0, rfl, e3, e4, e5⟩ := ra.tup r.sub
        exact .inr (.inr (.inr (.inr ⟨b0, a0, xs0, _, _, k, rfl, rfl, e1, e2.mono r.sub, .tup e3 (e4.mono r.sub), h1, h2, f.fz r h3 (.bl _)⟩)))
      · exact h.elim
    · exact h.elim
  | is =>
    simp only [sem2] at h
    split at h
    · exact .inl ⟨_, _, ra.bl, rb.bl, f.fz r h (.bl _)⟩
    · refine .inr ⟨rb.non, ?_⟩
      have e := (ra.rp r.sub).non_iff h.1
      show Q (.bl (decide (x = V.non))) H
      rw [e]
      exact f.fz r h.2 (.bl _)
    · exact h.elim
  | isnot =>
    simp only [sem2] at h
    split at h
    · exact .inl ⟨_, _, ra.bl, rb.bl, f.fz r h (.bl _)⟩
    · refine .inr ⟨rb.non, ?_⟩
      have e := (ra.rp r.sub).non_iff h.1
      show Q (.bl (!decide (x = V.non))) H
      rw [e]
      exact f.fz r h.2 (.bl _)
    · exact h.elim
  | ix =>
    simp only [sem2] at h
    split at h
    · obtain ⟨d, e, q⟩ := h
      obtain ⟨p, vs, rfl, h1, h2⟩ := ra
      obtain ⟨v, e1, e2⟩ := atI_rel h2 e
      exact .inl (.inl ⟨p, vs, _, v, rfl, rb.int, SqL.of h1, e1, f.fz r q e2⟩)
    · obtain ⟨d, e, q⟩ := h
      obtain ⟨p, vs, rfl, h1, h2, _⟩ := ra.tup r.sub
      obtain ⟨v, e1, e2⟩ := atI_rel h2 e
      exact .inl (.inr (.inl ⟨p, vs, _, v, rfl, rb.int, h1, e1, f.fz r q e2⟩))
    · obtain ⟨d, e, q⟩ := h
      have ra : Rp F.K G _ (.scr _ _) := ra
      cases ra with
      | scr h1 =>
        obtain ⟨v, e1, e2⟩ := atI_rel (RpA.ints (K := F.K) (G := G) _) (show atI (List.map D.int _) _ = some (.int d) by rw [atI_map, e]; rfl)
        exact .inl (.inl ⟨_, _, _, v, rfl, rb.int, same_sqL r.sub h1, e1, f.fz r q e2⟩)
    · obtain ⟨d, e, q⟩ := h
      obtain ⟨p, kvs, rfl, h1, h2⟩ := ra
      obtain ⟨v, e1, e2⟩ := h2.val e
      exact .inr ⟨p, kvs, .inr _, v, rfl, h1, rb.str, e1, f.fz r q e2⟩
    · obtain ⟨d, e, q⟩ := h
      obtain ⟨p, kvs, rfl, h1, h2⟩ := ra
      obtain ⟨v, e1, e2⟩ := h2.val e
      exact .inr ⟨p, kvs, .inl _, v, rfl, h1, rb.int, e1, f.fz r q e2⟩
    · obtain ⟨l, c, e, q⟩ := h
      exact .inl (.inr (.inr ⟨_, _, c, ra.str, rb.int, l, e, f.fz r q (.str _)⟩))
    · exact h.elim
end
end DI

set_option Elab.async false
set_option linter.all false
set_option autoImplicit false
set_option maxRecDepth 100000
set_option maxHeartbeats 1000000
/-! DI2c: repr of data; the built-in calls and the methods that change a list. -/
namespace DI
open PySem PySem.Spec PyProof.Rows L2

section
variable {X : Cx} {pins : List (Addr × Obj)} {σ : L2.St} {H : Hp} {s : Shared}
theorem key_reads {h : Heap} {k : Key} {u : Value} (e : keyIs k u = true) : Reads h u (kD k).py [] := by
  rcases keyIs_shape e with ⟨i, t, rfl, rfl⟩ | ⟨x, t, rfl, rfl⟩
  · rw [kD, D.py]; exact .int i t
  · rw [kD, D.py]; exact .str x t
theorem fst_pyK : ∀ ds : List (D × D), (pyK ds).map (·.1) = ds.map fun p => p.1.py
  | [] => by rw [pyK]; rfl
  | (a, b) :: r => by rw [pyK, List.map_cons, List.map_cons, fst_pyK r]
theorem snd_pyK : ∀ ds : List (D × D), (pyK ds).map (·.2) = ds.map fun p => p.2.py
  | [] => by rw [pyK]; rfl
  | (a, b) :: r => by rw [pyK, List.map_cons, List.map_cons, snd_pyK r]
/-- what is tracked is not the table of modules -/
theorem not_sys (I : Inv X pins σ H s) (sm : ∃ o, X.base.get? sysModules = some o) {a : Addr} {o : HO} (h : H a = some o) : sysModules ≠ a := fun e => by
  obtain ⟨ob, q⟩ := sm
  have := (I.bs _ _ q).2
  rw [e, h] at this
  cases this
mutual
theorem Rp.reads (I : Inv X pins σ H s) (sm : ∃ o, X.base.get? sysModules = some o) : ∀ {v : V} {d : D} {u : Value}, Rp X.K H v d → d.ok = true → RelV v u → ∃ as, Reads s.heap u d.py as ∧ sysModules ∉ as
  | _, _, u, .non, _, r => by
    cases r; rw [D.py]; exact ⟨[], .none, by simp⟩
  | _, _, u, .bl b, _, r => by
    cases r; rw [D.py]; exact ⟨[], .bool b, by simp⟩
  | _, _, u, .int i, _, r => by
    obtain ⟨t, rfl⟩ := r; rw [D.py]; exact ⟨[], .int i t, by simp⟩
  | _, _, u, .str i, _, r => by
    obtain ⟨t, rfl⟩ := r; rw [D.py]; exact ⟨[], .str i t, by simp⟩
  | _, _, u, .lst (a := a) h q, o, r => by
    cases r
    rw [D.ok] at o
    rw [D.py]
    obtain ⟨its, rv, ⟨ob, n, ho, hc, hd, hdt⟩, _⟩ := I.list (SqL.of (K := X.K) h)
    obtain ⟨as, h1, h2⟩ := RpA.reads I sm q o rv
    refine ⟨a :: as, .list ho hc hdt (by simpa using h1), ?_⟩
    rw [List.mem_cons, not_or]
    exact ⟨not_sys I sm h, h2⟩
  | _, _, u, .tup (a := a) h q, o, r => by
    cases r
    rw [D.ok] at o
    rw [D.py]
    obtain ⟨its, rv, ⟨ob, ho, hc, n, hdt⟩, _⟩ := I.tuple h
    obtain ⟨as, h1, h2⟩ := RpA.reads I sm q o rv
    exact ⟨as, .tuple ho hc hdt (by simpa using h1), h2⟩
  | _, _, u, .dct (a := a) h q, o, r => by
    cases r
    rw [D.ok] at o
    rw [D.py]
    obtain ⟨_, hy, vs, kv, ob, es, ep, ho, he, hdt, _, hp, _⟩ := (show ObjOk X.prog X.w H s.heap a (.dK _) from h.ok I.hok)
    obtain ⟨as, bs, h1, h2, h3, h4⟩ := RpK.reads I sm q o kv hp
    refine ⟨a :: as ++ bs, .dict ho he.1 hdt ?_ ?_, ?_⟩
    · rw [fst_pyK]; exact h1
    · rw [snd_pyK]; exact h2
    · rw [List.cons_append, List.mem_cons, not_or, List.mem_append, not_or]
      exact ⟨fun e => (by rw [← e] at hy; simp at hy), h3, h4⟩
  | _, _, u, .opq v, o, r => by
    rw [D.ok] at o; cases o
  | _, _, u, .scr _, o, r => by
    rw [D.ok] at o; cases o
  | _, _, u, .dcn _ _, o, r => by
    rw [D.ok] at o; cases o
theorem RpA.reads (I : Inv X pins σ H s) (sm : ∃ o, X.base.get? sysModules = some o) : ∀ {vs : List V} {ds : List D} {us : List Value}, RpA X.K H vs ds → okA ds = true → Vals vs us → ∃ as, ReadsAll s.heap us (pyA ds) as ∧ sysModules ∉ as
  | _, _, _, .nil, _, r => by
    cases r; rw [pyA]; exact ⟨[], .nil, by simp⟩
  | _, _, _, .cons h q, o, r => by
    cases r with
    | cons r1 r2 =>
      rw [okA, Bool.and_eq_true] at o
      rw [pyA]
      obtain ⟨as, h1, h2⟩ := Rp.reads I sm h o.1 r1
      obtain ⟨bs, h3, h4⟩ := RpA.reads I sm q o.2 r2
      exact ⟨as ++ bs, .cons h1 h3, by rw [List.mem_append, not_or]; exact ⟨h2, h4⟩⟩
theorem RpK.reads (I : Inv X pins σ H s) (sm : ∃ o, X.base.get? sysModules = some o) : ∀ {kvs : List (Key × V)} {ds : List (D × D)} {vs : List (Key × Value)} {es : List DictEntry}, RpK X.K H kvs ds → okK ds = true → KV kvs vs → Pairs (mixKind X.prog X.w) es vs →
    ∃ as bs, ReadsAll s.heap (es.map (·.key)) (ds.map fun p => p.1.py) as ∧ ReadsAll s.heap (es.map (·.val)) (ds.map fun p => p.2.py) bs ∧ sysModules ∉ as ∧ sysModules ∉ bs
  | _, _, _, _, .nil, _, kv, pr => by
    cases kv; cases pr; exact ⟨[], [], .nil, .nil, by simp, by simp⟩
  | _, _, _, _, .cons h q, o, kv, pr => by
    rw [okK, Bool.and_eq_true, Bool.and_eq_true] at o
    cases kv with
    | cons k1 k2 =>
      cases pr with
      | cons p1 p2 p3 =>
        obtain ⟨e1, e2⟩ := k1
        obtain ⟨as, bs, h1, h2, h3, h4⟩ := RpK.reads I sm q o.2 k2 p3
        obtain ⟨cs, h5, h6⟩ := Rp.reads I sm h o.1.2 e2
        refine ⟨[] ++ as, cs ++ bs, ?_, ?_, by simpa using h3, by rw [List.mem_append, not_or]; exact ⟨h6, h4⟩⟩
        · rw [List.map_cons, List.map_cons]
          refine .cons (key_reads ?_) h1
          have e1' := e1
          simp only at e1'
          rw [e1']
          exact p1
        · rw [List.map_cons, List.map_cons]
          refine .cons ?_ h2
          rw [p2]
          exact h5
end
end
section
variable {X : Cx}
def rRepr (K : PySem.W.Frag) : List V → Hp → VK → Prop := fun xs H Q => ∃ v d, xs = [v] ∧ Rp K H v d ∧ d.shw = true ∧ Q (.str d.py.shown) H
theorem call_reprD (hg : X.A.guards = some []) (hu : X.A.units + 65 < cLine) (sm : ∃ o, X.base.get? sysModules = some o) : CallR X (.builtin "repr") (rRepr X.K) := by
  intro pins s σ H xs us Q I r ⟨v, d, e, h, hs, q⟩
  subst e
  obtain ⟨u, rfl, rx⟩ := vals1 r
  unfold D.shw at hs
  simp only [Bool.and_eq_true, decide_eq_true_eq] at hs
  obtain ⟨⟨⟨h1, h2⟩, h3⟩, h4⟩ := hs
  cases h with
  | scr _ => rw [D.ok] at h1; cases h1
  | dcn _ _ => rw [D.ok] at h1; cases h1
  | non =>
    cases rx
    rw [D.py, PyData.shown] at q
    exact PySem.P.repr_of_none ⟨.str "None", H, I.tok _, ⟨_, rfl⟩, q⟩
  | bl b =>
    cases rx
    rw [D.py, PyData.shown] at q
    exact PySem.P.repr_of_bool ⟨.str _, H, I.tok _, ⟨_, rfl⟩, q⟩
  | int i =>
    obtain ⟨t, rfl⟩ := rx
    rw [D.py, PyData.shown] at q
    rw [D.py, PyData.showable, decide_eq_true_eq] at h2
    exact PySem.P.repr_of_int h2 ⟨.str _, H, I.tok _, ⟨_, rfl⟩, q⟩
  | str x =>
    obtain ⟨t, rfl⟩ := rx
    rw [D.py, PyData.shown] at q h4
    exact PySem.P.repr_of_str ⟨.str _, H, I.tok _, ⟨_, rfl⟩, q⟩ h4
  | lst ha ra =>
    obtain ⟨as, h5, h6⟩ := Rp.reads I sm (.lst ha ra) h1 rx
    cases rx
    exact repr_of_reads' h5 h2 (fun _ => h6) hg (by omega) (fun _ _ e => e) (fun h' u tk hk => ⟨.str _, H, I.kept hk, ⟨_, rfl⟩, q⟩) h4
  | tup ha ra =>
    obtain ⟨as, h5, h6⟩ := Rp.reads I sm (.tup ha ra) h1 rx
    cases rx
    exact repr_of_reads' h5 h2 (fun _ => h6) hg (by omega) (fun _ _ e => e) (fun h' u tk hk => ⟨.str _, H, I.kept hk, ⟨_, rfl⟩, q⟩) h4
  | dct ha ra =>
    obtain ⟨as, h5, h6⟩ := Rp.reads I sm (.dct ha ra) h1 rx
    cases rx
    exact repr_of_reads' h5 h2 (fun _ => h6) hg (by omega) (fun _ _ e => e) (fun h' u tk hk => ⟨.str _, H, I.kept hk, ⟨_, rfl⟩, q⟩) h4
  | opq v => rw [D.ok] at h1; cases h1
end

/-! ### built-in calls -/
abbrev RC := List V → Hp → VK → Prop
def rDictP (K : PySem.W.Frag) : RC := fun xs H Q => ∃ (a : Addr) (ps : List Addr) (kvs : List (Key × V)), xs = [.ref a] ∧ SqL K H a (ps.map V.ref) ∧ Paired (fun p kv => SqT K H p [kV kv.1, kv.2]) ps kvs ∧
    ∀ p, H p = none → Q (.ref p) (upd H p (.dK (mergeK [] kvs)))
def rDictD : RC := fun xs H Q => ∃ (a : Addr) (kvs : List (Key × V)), xs = [.ref a] ∧ Rd H a (.dK kvs) ∧ ∀ p, H p = none → Q (.ref p) (upd H p (.dK kvs))
def rSortedDK : RC := fun xs H Q => ∃ (a : Addr) (kvs : List (Key × V)) (ks : List Str), xs = [.ref a] ∧ Rd H a (.dK kvs) ∧ kvs.map (·.1) = ks.map Sum.inr ∧ ks.length < 64 ∧
    ∀ ys p, ys.Perm ks → sortedS ys = true → H p = none → Q (.ref p) (upd H p (.lst (ys.map V.str)))
def rB (b : B1) (K : PySem.W.Frag) : RC := match b with
  | .len => fun xs H Q => (∃ p ys, xs = [.ref p] ∧ (SqL K H p ys ∨ SqT K H p ys) ∧ Q (.int ys.length) H) ∨ (∃ z, xs = [.str z] ∧ z.length ≤ sizeLine ∧ Q (.int z.length) H) ∨ ∃ a kvs, xs = [V.ref a] ∧ Rd H a (.dK kvs) ∧ Q (.int kvs.length) H
  | .abs => fun xs H Q => ∃ i, xs = [.int i] ∧ Q (.int (if i < 0 then -i else i)) H
  | .int => fun xs H Q => (∃ i, xs = [.int i] ∧ Q (.int i) H) ∨ ∃ k, xs = [.bl k] ∧ Q (.int (if k then 1 else 0)) H
  | .str => fun xs H Q => ∃ i, xs = [.int i] ∧ i.natAbs.log2 < 1920 ∧ Q (.str (toString i)) H
  | .list => fun xs H Q => ∃ p ys, xs = [.ref p] ∧ (SqL K H p ys ∨ SqT K H p ys) ∧ ∀ l, H l = none → Q (.ref l) (upd H l (.lst ys))
  | .tuple => fun xs H Q => ∃ p ys, xs = [.ref p] ∧ ((SqL K H p ys ∧ ∀ l, H l = none → Q (.ref l) (upd H l (.tup ys))) ∨ (SqT K H p ys ∧ Q (.ref p) H))
  | .sorted => fun xs H Q => (rSortedS K xs H Q ∨ rSorted K xs H Q) ∨ rSortedDK xs H Q
  | .repr => rRepr K
  | .all => rAll K
  | .any => rAny K
  | .sum => rSum K
  | .isi => fun xs H Q => rIsi K xs H Q ∨ rIsiS K xs H Q
  | .dict => fun xs H Q => rDictP K xs H Q ∨ rDictD xs H Q
inductive BV where
  | bi (id : String)
  | ty (id : String)
def B1.val : B1 → BV
  | .len => .bi "len"
  | .abs => .bi "abs"
  | .int => .ty "int"
  | .str => .ty "str"
  | .list => .ty "list"
  | .tuple => .ty "tuple"
  | .sorted => .bi "sorted"
  | .repr => .bi "repr"
  | .all => .bi "all"
  | .any => .bi "any"
  | .sum => .bi "sum"
  | .isi => .bi "isinstance"
  | .dict => .ty "dict"
def BV.value : BV → Value
  | .bi id => .builtin id
  | .ty id => .type id
structure Good (X : Cx) : Prop where
  calm : X.calm = true
  guards : X.A.guards = some []
  units : X.A.units + 65 < cLine
  sys : ∃ o, X.base.get? sysModules = some o
theorem callr {X : Cx} (g : Good X) : ∀ b : B1, CallR X b.val.value (rB b X.K)
  | .len => call_len_seq.or (call_len_str.or call_lenDR)
  | .abs => call_abs
  | .int => call_int1
  | .str => call_str_int
  | .list => call_list_of
  | .tuple => call_tuple_of
  | .sorted => (cr_sortedS.or cr_sorted).or (call_sortedD g.calm)
  | .repr => call_reprD g.guards g.units g.sys
  | .all => cr_all g.calm
  | .any => cr_any g.calm
  | .sum => cr_sum g.calm
  | .isi => call_isi.or call_isiS
  | .dict => (call_dictP g.calm).or call_dictD
end DI

set_option Elab.async false
set_option linter.all false
set_option autoImplicit false
set_option maxRecDepth 100000
set_option maxHeartbeats 1000000
/-! DI2d: the built-in calls and the methods over data, led back. -/
namespace DI
open PySem PySem.Spec PyProof.Rows L2
section
variable {K : PySem.W.Frag} {G H : Hp}
theorem RpA.bl_of {vs : List V} {ns : List Bool} (h : RpA K G vs (ns.map D.bl)) : vs = ns.map V.bl := by
  induction ns generalizing vs with
  | nil => cases h; rfl
  | cons n ns ih =>
    cases h with
    | cons a b => cases a; rw [ih b]; rfl
inductive RoA (K : PySem.W.Frag) (G H : Hp) : List V → List D → Prop
  | nil : RoA K G H [] []
  | cons {v : V} {d : D} {vs : List V} {ds : List D} : Ro K G H v d → RoA K G H vs ds → RoA K G H (v :: vs) (d :: ds)
theorem RoA.one {vs : List V} {d : D} (h : RoA K G H vs [d]) : ∃ v, vs = [v] ∧ Ro K G H v d := by
  cases h with
  | cons a b => cases b; exact ⟨_, rfl, a⟩
theorem RoA.two {vs : List V} {d e : D} (h : RoA K G H vs [d, e]) : ∃ v c, vs = [v, c] ∧ Ro K G H v d ∧ Ro K G H c e := by
  cases h with
  | cons a b => cases b with
    | cons c b => cases b; exact ⟨_, _, rfl, a, c⟩
theorem ty_of {v : V} {d : D} {t : String} (h : d.tyn = some t) (ra : Ro K G H v d) (s : Same G H) : TyX K H v (.type t) := by
  cases d with
  | non => cases h; rw [ra.non]; exact .base .non
  | bl b => cases h; rw [ra.bl]; exact .base (.bl b)
  | int b => cases h; rw [ra.int]; exact .base (.int b)
  | str b => cases h; rw [ra.str]; exact .base (.str b)
  | lst xs => cases h; obtain ⟨a, vs, rfl, h1, _⟩ := ra; exact .base (.lst h1)
  | tup xs =>
    cases h
    obtain ⟨a, vs, rfl, h1, _⟩ := ra.tup s
    rcases h1 with (h1 | ⟨o, h1⟩) | ⟨o, its, n, hk, hc, _⟩
    · exact .base (.tup h1)
    · exact .fTuple h1
    · exact .kTuple hk hc
  | dct xs =>
    cases h
    obtain ⟨a, vs, rfl, h1, _⟩ := ra
    rcases h1 with h1 | ⟨o, h1⟩
    · exact .base (.dK h1)
    · exact .fDict h1
  | scr b ns =>
    cases h
    have ra : Rp K G v (.scr b ns) := ra
    cases ra with
    | scr h1 =>
      rcases same_sqL s h1 with (h1 | ⟨o, h1⟩) | ⟨o, its, n, hk, hc, _⟩
      · exact .base (.lst h1)
      · exact .base (.frz h1)
      · exact .kList hk hc
  | opq _ => cases h
  | dcn _ _ => cases h
theorem opqs_of {vs : List V} {ns : List String} (h : RpA K G vs (ns.map fun n => D.opq (.ty n))) : vs = ns.map V.ty := by
  induction ns generalizing vs with
  | nil => cases h; rfl
  | cons n ns ih =>
    rw [List.map_cons] at h
    cases h with
    | cons a b => cases a; rw [ih b]; rfl
theorem cls_tys : ∀ ns : List String, Paired ClsV (ns.map V.ty) (ns.map Value.type)
  | [] => .nil
  | n :: ns => .cons (.ty n) (cls_tys ns)
theorem isiA_kit {d : D} {t : String} (ht : d.tyn = some t) : ∀ {ns : List String} {b : Bool}, isiA d ns = some b → PySem.W.kitAny K (.type t) (ns.map Value.type) = some b
  | [], b, e => by cases e; rfl
  | n :: ns, b, e => by
    have e0 : isiB d n = kitB t n := by unfold isiB; rw [ht]; rfl
    rw [isiA, e0] at e
    cases hk : kitB t n with
    | none => rw [hk] at e; cases e
    | some c =>
      rw [hk] at e
      rw [List.map_cons]
      cases c with
      | true => cases e; exact kitAny_cons (kit_ty hk) (fun z => nomatch z) fun _ => rfl
      | false => exact kitAny_cons (kit_ty hk) (fun _ => isiA_kit ht e) fun z => nomatch z
theorem paired_imp {α β : Type} {p q : α → β → Prop} (f : ∀ x y, p x y → q x y) : ∀ {as : List α} {bs : List β}, Paired p as bs → Paired q as bs
  | _, _, .nil => .nil
  | _, _, .cons h t => .cons (f _ _ h) (paired_imp f t)
theorem RpA.roA {vs : List V} {ds : List D} (h : RpA K G vs ds) (s : Same G H) : RoA K G H vs ds := by
  induction vs generalizing ds with
  | nil => cases h; exact .nil
  | cons v vs ih => cases h with | cons a b => exact .cons (a.ro s) (ih b)
theorem RpK.length {vs : List (Key × V)} {ds : List (D × D)} (h : RpK K G vs ds) : vs.length = ds.length := by
  induction vs generalizing ds with
  | nil => cases h; rfl
  | cons v vs ih => cases h with | cons a b => simp [ih b]
end
section
variable {F : Fr} {G H : Hp} {σ : L2.St} {ρ : Sta} {Q : VK}
theorem liftB {b : B1} {vs : List V} {ds : List D} {P : R → Prop} (r : Rl F G H σ ρ) (ra : RoA F.K G H vs ds) (h : semB b ds P) (f : Gv F G H σ ρ P Q) : rB b F.K vs H Q := by
  cases b with
  | len =>
    simp only [semB] at h
    split at h
    · obtain ⟨v, rfl, a, ws, rfl, h1, h2⟩ := ra.one
      refine .inl ⟨a, ws, rfl, .inl (SqL.of h1), ?_⟩
      rw [h2.length]; exact f.fz r h (.int _)
    · obtain ⟨v, rfl, q⟩ := ra.one
      obtain ⟨a, ws, rfl, h1, h2, _⟩ := q.tup r.sub
      refine .inl ⟨a, ws, rfl, .inr h1, ?_⟩
      rw [h2.length]; exact f.fz r h (.int _)
    · obtain ⟨v, rfl, q⟩ := ra.one
      refine .inr (.inl ⟨_, by rw [q.str], h.1, f.fz r h.2 (.int _)⟩)
    · obtain ⟨v, rfl, a, ws, rfl, h1, h2⟩ := ra.one
      refine .inr (.inr ⟨a, ws, rfl, h1, ?_⟩)
      rw [h2.length]; exact f.fz r h (.int _)
    · obtain ⟨v, rfl, q⟩ := ra.one
      have q : Rp F.K G v (.scr _ _) := q
      cases q with
      | scr h1 =>
        refine .inl ⟨_, _, rfl, .inl (same_sqL r.sub h1), ?_⟩
        rw [List.length_map]; exact f.fz r h (.int _)
    · exact h.elim
  | abs =>
    simp only [semB] at h
    split at h
    · obtain ⟨v, rfl, q⟩ := ra.one
      exact ⟨_, by rw [q.int], f.fz r h (.int _)⟩
    · exact h.elim
  | int =>
    simp only [semB] at h
    split at h
    · obtain ⟨v, rfl, q⟩ := ra.one
      exact .inl ⟨_, by rw [q.int], f.fz r h (.int _)⟩
    · obtain ⟨v, rfl, q⟩ := ra.one
      exact .inr ⟨_, by rw [q.bl], f.fz r h (.int _)⟩
    · exact h.elim
  | str =>
    simp only [semB] at h
    split at h
    · obtain ⟨v, rfl, q⟩ := ra.one
      exact ⟨_, by rw [q.int], h.1, f.fz r h.2 (.str _)⟩
    · exact h.elim
  | list =>
    simp only [semB] at h
    split at h
    · obtain ⟨v, rfl, a, ws, rfl, h1, h2⟩ := ra.one
      exact ⟨a, ws, rfl, .inl (SqL.of h1), fun l hl => f.lst r h h2 hl⟩
    · obtain ⟨v, rfl, q⟩ := ra.one
      obtain ⟨a, ws, rfl, h1, h2, _⟩ := q.tup r.sub
      exact ⟨a, ws, rfl, .inr h1, fun l hl => f.lst r h h2 hl⟩
    · exact h.elim
  | tuple =>
    simp only [semB] at h
    split at h
    · obtain ⟨v, rfl, a, ws, rfl, h1, h2⟩ := ra.one
      exact ⟨a, ws, rfl, .inl ⟨SqL.of h1, fun l hl => f.tup r h h2 hl⟩⟩
    · obtain ⟨v, rfl, q⟩ := ra.one
      obtain ⟨a, ws, rfl, h1, h2, h3⟩ := q.tup r.sub
      exact ⟨a, ws, rfl, .inr ⟨h1, f.fz r h (.tup h3 h2)⟩⟩
    · exact h.elim
  | sorted =>
    simp only [semB] at h
    split at h
    · obtain ⟨v, rfl, a, ws, rfl, h1, h2⟩ := ra.one
      rcases h with ⟨ss, rfl, hl, q⟩ | ⟨ss, rfl, hl, q⟩
      · have e := h2.str_of
        subst e
        exact .inl (.inl ⟨a, ss, rfl, SqL.of h1, hl, fun ys p hp hs hn => f.lst r (q ys hp hs) (RpA.strs ys) hn⟩)
      · have e := h2.int_of
        subst e
        exact .inl (.inr ⟨a, ss, rfl, SqL.of h1, hl, fun ys p hp hs hn => f.lst r (q ys hp hs) (RpA.ints ys) hn⟩)
    · obtain ⟨v, rfl, a, ws, rfl, h1, h2⟩ := ra.one
      obtain ⟨ks, e, hl, q⟩ := h
      rw [h2.keys] at e
      exact .inr ⟨a, ws, ks, rfl, h1, keys_str e, hl, fun ys p hp hs hn => f.lst r (q ys hp hs) (RpA.strs ys) hn⟩
    · exact h.elim
  | repr =>
    simp only [semB] at h
    split at h
    · obtain ⟨v, rfl, q⟩ := ra.one
      exact ⟨v, _, rfl, q.rp r.sub, h.1, f.fz r h.2 (.str _)⟩
    · exact h.elim
  | all =>
    simp only [semB] at h
    split at h
    · obtain ⟨v, rfl, a, ws, rfl, h1, h2⟩ := ra.one
      obtain ⟨bs, rfl, q⟩ := h
      have e := h2.bl_of
      subst e
      exact ⟨a, bs, rfl, SqL.of h1, f.fz r q (.bl _)⟩
    · exact h.elim
  | any =>
    simp only [semB] at h
    split at h
    · obtain ⟨v, rfl, a, ws, rfl, h1, h2⟩ := ra.one
      obtain ⟨bs, rfl, q⟩ := h
      have e := h2.bl_of
      subst e
      exact ⟨a, bs, rfl, SqL.of h1, f.fz r q (.bl _)⟩
    · exact h.elim
  | sum =>
    simp only [semB] at h
    split at h
    · obtain ⟨v, rfl, a, ws, rfl, h1, h2⟩ := ra.one
      obtain ⟨bs, rfl, q⟩ := h
      have e := h2.int_of
      subst e
      exact ⟨a, bs, rfl, SqL.of h1, f.fz r q (.int _)⟩
    · exact h.elim
  | isi =>
    simp only [semB] at h
    split at h
    · rename_i d n
      obtain ⟨b, e, q⟩ := h
      obtain ⟨v, c, rfl, r1, r2⟩ := ra.two
      have r2 : Rp F.K G c (.opq (.ty n)) := r2
      cases r2
      unfold isiB at e
      obtain ⟨t, e1, e2⟩ := Option.bind_eq_some_iff.mp e
      exact .inl ⟨v, .ty n, .type t, .type n, b, rfl, .ty n, ty_of e1 r1 r.sub, kit_ty e2, f.fz r q (.bl b)⟩
    · rename_i d us
      obtain ⟨ns, b, rfl, e0, e, q⟩ := h
      obtain ⟨v, c, rfl, r1, r2⟩ := ra.two
      obtain ⟨a, vs, rfl, h1, h2, _⟩ := r2.tup r.sub
      have e3 := opqs_of h2
      subst e3
      cases ht : d.tyn with
      | none => rw [ht] at e0; cases e0
      | some t => exact .inr ⟨v, a, _, .type t, ns.map Value.type, b, rfl, h1, cls_tys ns, ty_of ht r1 r.sub, isiA_kit ht e, f.fz r q (.bl b)⟩
    · exact h.elim
  | dict =>
    simp only [semB] at h
    split at h
    · obtain ⟨v, rfl, a, ws, rfl, h1, h2⟩ := ra.one
      obtain ⟨kvs, rfl, q⟩ := h
      obtain ⟨ps, ms, rfl, q1, q2⟩ := h2.pairs
      refine .inl ⟨a, ps, ms, rfl, SqL.of h1, ?_, fun p hp => ?_⟩
      · exact paired_imp (fun x y z => same_sqT r.sub z) q1
      · exact f _ _ G _ q (Gw.new r.sub hp) ⟨p, rfl, r.nw hp ⟨_, upd_same, RpK.merge .nil q2⟩⟩
    · obtain ⟨v, rfl, a, ws, rfl, h1, h2⟩ := ra.one
      exact .inr ⟨a, ws, rfl, h1, fun p hp => f _ _ G _ h (Gw.new r.sub hp) ⟨p, rfl, r.nw hp ⟨_, upd_same, h2⟩⟩⟩
    · exact h.elim
end

/-! ### methods that change a list -/
abbrev RM := V → List V → Hp → VK → Prop
def rM (m : M2) : RM := match m with
  | .append => rAppend
  | .extend => rExtend
  | .pop => rPop
  | .popAt => rPopAt
  | .insert => fun x vs H Q => ∃ (l : Addr) (xs : List V) (i : Int) (y : V), x = .ref l ∧ vs = [.int i, y] ∧ H l = some (.lst xs) ∧ xs.length < sizeLine ∧ 0 ≤ i ∧ i < 2 ^ 63 ∧ Q .non (upd H l (.lst (xs.take i.toNat ++ [y] ++ xs.drop i.toNat)))
def M2.id : M2 → String
  | .append => "list.append"
  | .extend => "list.extend"
  | .pop => "list.pop"
  | .popAt => "list.pop"
  | .insert => "list.insert"
section
variable {F : Fr} {G H : Hp} {σ : L2.St} {ρ : Sta} {Q : VK}
/-- the own list at a is changed -/
theorem liftM {m : M2} {i : Nat} {a : Addr} {d : D} {vs : List V} {ds : List D} {P : D → D → Prop} (r : Rl F G H σ ρ) (ho : ρ.sl[i]? = some (.ow d)) (hs : σ[i]? = some (some (.ref a))) (ra : RpA F.K G vs ds) (h : semM m d ds P)
    (f : ∀ d' z v H', P d' z → Rl F G H' σ (ρ.put i (.ow d')) → Rp F.K G v z → Q v H') : rM m (.ref a) vs H Q := by
  obtain ⟨a', h1, h2, h3, h4⟩ := r.ow i d ho
  rw [h1] at hs
  cases hs
  cases m with
  | append =>
    simp only [semM] at h
    split at h
    · obtain ⟨ws, e1, e2⟩ := h4
      cases ra with
      | cons q1 q2 =>
        cases q2
        refine ⟨a, ws, _, rfl, rfl, e1, by rw [e2.length]; exact h.1, f _ _ _ _ h.2 (r.mut ho h1 ⟨_, upd_same, e2.append (.cons q1 .nil)⟩) .non⟩
    · exact h.elim
  | extend =>
    simp only [semM] at h
    split at h
    · obtain ⟨ws, e1, e2⟩ := h4
      cases ra with
      | cons q1 q2 =>
        cases q2
        cases q1 with
        | lst p1 p2 =>
          refine ⟨a, _, ws, _, rfl, rfl, e1, r.sub _ _ p1, by rw [e2.length, p2.length]; exact h.1, f _ _ _ _ h.2 (r.mut ho h1 ⟨_, upd_same, e2.append p2⟩) .non⟩
    · exact h.elim
  | pop =>
    simp only [semM] at h
    split at h
    · obtain ⟨ws, e1, e2⟩ := h4
      obtain ⟨y, e3, q⟩ := h
      cases ra
      obtain ⟨v, e4, e5⟩ := e2.get e3
      refine ⟨a, ws, v, rfl, rfl, e1, by rw [e2.length]; exact e4, f _ _ _ _ q (r.mut ho h1 ⟨_, upd_same, e2.dropLast⟩) e5⟩
    · exact h.elim
  | popAt =>
    simp only [semM] at h
    split at h
    · obtain ⟨ws, e1, e2⟩ := h4
      obtain ⟨b1, b2, k, y, e3, e4, q⟩ := h
      cases ra with
      | cons q1 q2 =>
        cases q2
        cases q1
        obtain ⟨v, e5, e6⟩ := e2.get e4
        refine ⟨a, ws, _, k, v, rfl, rfl, e1, b1, b2, by rw [e2.length]; exact e3, e5, f _ _ _ _ q (r.mut ho h1 ⟨_, upd_same, e2.eraseIdx k⟩) e6⟩
    · exact h.elim
  | insert =>
    simp only [semM] at h
    split at h
    · obtain ⟨ws, e1, e2⟩ := h4
      cases ra with
      | cons q1 q2 =>
        cases q2 with
        | cons q2 q3 =>
          cases q3
          cases q1
          refine ⟨a, ws, _, _, rfl, rfl, e1, by rw [e2.length]; exact h.1, h.2.1, h.2.2.1, f _ _ _ _ h.2.2.2 (r.mut ho h1 ⟨_, upd_same, ((e2.take _).append (.cons q2 .nil)).append (e2.drop _)⟩) .non⟩
    · exact h.elim
end
end DI

set_option Elab.async false
set_option linter.all false
set_option autoImplicit false
set_option maxRecDepth 100000
set_option maxHeartbeats 1000000
/-! DI3a: readings of the small language; defs whose callers show no text under way. -/
namespace DI
open PySem PySem.Spec PyProof.Rows L2

/-! ### a def's promise where no text is being shown -/
structure FnG (P : Program) (w : World) (K : PySem.W.Frag) (mg : Str → Option Value) (base : Heap) (k : Nat) (f : Addr) (fd : FuncData) (ps : List Str) (sp : Sp) : Prop where
  len : ∀ vs H Q E, sp vs H Q E → vs.length = ps.length
  run : ∀ (A : Around) (outer : List PySem.Env) (s : Shared) (H : Hp) (args : Args) (us : List Value) (vs : List V) (Q : VK) (E : XK), A.guards = some [] → Room k A → Env0 P w K mg base A outer s H →
    BindsTo s fd args (ps.zip us) → Vals vs us → sp vs H Q E → codeAny (model P w) A (.call (.ref f) args) (CR CX0 outer P w H s Q E) s
theorem FnG.mono {P : Program} {w : World} {K : PySem.W.Frag} {mg : Str → Option Value} {base : Heap} {j k : Nat} {f : Addr} {fd : FuncData} {ps : List Str} {sp : Sp} (F : FnG P w K mg base j f fd ps sp) (h : j ≤ k) : FnG P w K mg base k f fd ps sp :=
  ⟨F.len, fun A outer s H args us vs Q E hg hr => F.run A outer s H args us vs Q E hg (hr.mono h)⟩
theorem FnG.imp {P : Program} {w : World} {K : PySem.W.Frag} {mg : Str → Option Value} {base : Heap} {k : Nat} {f : Addr} {fd : FuncData} {ps : List Str} {sp sp' : Sp} (F : FnG P w K mg base k f fd ps sp) (h : ∀ vs H Q E, sp' vs H Q E → sp vs H Q E) : FnG P w K mg base k f fd ps sp' :=
  ⟨fun vs H Q E q => F.len vs H Q E (h _ _ _ _ q), fun A outer s H args us vs Q E hg hr he hb hv hs => F.run A outer s H args us vs Q E hg hr he hb hv (h _ _ _ _ hs)⟩
section
variable {X : Cx} {k : Nat} {f : Addr} {fd : FuncData} {ps : List Str} {sp : Sp}
/-- the callee at work -/
theorem goG {pins : List (Addr × Obj)} {σ : L2.St} {H : Hp} {s : Shared} {Q : VK} {us : List Value} {vs : List V} (F : FnG X.prog X.w X.K X.mg X.base k f fd ps sp) (hg : X.A.guards = some []) (hr : Room k X.A) (hb : Binds X.K fd ps [])
    (I : Inv X pins σ H s) (r : Vals vs us) (h : sp vs H Q E0) : wpAny (model X.prog X.w) X.A (call (.ref f) us) (EP X pins σ Q) X.xe s := by
  have hl : us.length = ps.length := by
    rw [← r.length]
    exact F.len _ _ _ _ h
  have bd : BindsTo s fd ⟨us, []⟩ (ps.zip us) := by
    have q := hb s us I.kIn (by rw [List.append_nil]; exact hl)
    rwa [List.append_nil] at q
  refine wpAny_call (codeAny_mono (F.run X.A X.stack s H _ _ _ _ _ hg hr I.env0 bd r h) fun z s2 q => ?_)
  rcases z with e | fl
  · exact q.elim
  · cases fl with
    | ret u => exact I.after q
    | next => exact q.elim
    | brk => exact q.elim
    | cont => exact q.elim
def tCallG (sp : Sp) (t : TA) : TE := fun σ H Q => t σ H fun vs H1 => sp vs H1 Q E0
theorem pe_callG {x : Str} {p pos : Pos} {e : Expr} {es : List Expr} {t : TA} (F : FnG X.prog X.w X.K X.mg X.base k f fd ps sp) (hgd : X.A.guards = some []) (hr : Room k X.A) (hg : Gl X x) (hm : X.mg x = some (.ref f)) (hk : PySem.W.keepIn X.K (.ref f) = true)
    (hb : Binds X.K fd ps []) (ha : PA X (e :: es) t) (hdb : (x == ("__debug__" : Str)) = false) (he : starEach (e :: es) X.env = (false, eval e X.env) :: starEach es X.env) (hpl : (backTo pos (starEach es X.env)).any (·.1) = false) :
    PE X (.Call (.Name x p) (e :: es) [] pos) (tCallG sp t) := by
  constructor
  intro pins s σ H Q I h
  refine wpAny_Call_Name_kw (ld_glob I hg hm ?_ hdb)
  refine PySem.W.callWith_K (h₀ := X.base) I.ok.mod.kin hk (thn (ha.run pos pins s σ H _ I h) ?_) he hpl
  rintro us s1 ⟨vs, H1, I1, r, q⟩
  exact ⟨I1.kIn, goG F hgd hr hb I1 r q⟩
end

/-! ### a promise over data as one over the heap -/
/-- how an answer stands -/
def RO (K : PySem.W.Frag) (G H : Hp) (H0 : Hp) (v : V) : R → Prop
  | .fz d => Rp K G v d
  | .ow d => ∃ a, v = .ref a ∧ H0 a = none ∧ G a = none ∧ Con K G H a d
  | .al _ => False
structure Ok2 (K : PySem.W.Frag) (β : Option Bag) (G H G' H' : Hp) : Prop where
  g : Same G G'
  s : Same G' H'
  k : ∀ a, H a ≠ none → G a = none → G' a = none ∧ (nbag β a → H' a = H a)
  b : ∀ b, β = some b → BagOk K G' H' b
def liftSp (K : PySem.W.Frag) (S : DSp) : Sp := fun vs H Q _ => ∃ G β ds, Same G H ∧ (∀ b, β = some b → BagOk K G H b) ∧ RpA K G vs ds ∧
  S β ds fun o => ∀ v G' H', Ok2 K β G H G' H' → RO K G' H' H v o → Q v H'

/-! ### readings -/
def LE (T : Tb) (K : PySem.W.Frag) (c : CE) : TE := fun σ H Q => ∃ F G ρ, F.K = K ∧ Rl F G H σ ρ ∧ evE T c ρ fun r ρ' => ∀ v G' H', Same G G' → Rl F G' H' σ ρ' → RR F G' H' σ ρ' v r → Q v H'
/-- a stable operand -/
def SO (F : Fr) (G : Hp) (σ : L2.St) (v : V) : R → Prop
  | .fz d => Rp F.K G v d
  | .ow d => Rp F.K G v d
  | .al i => σ[i]? = some (some v)
def SOA (F : Fr) (G : Hp) (σ : L2.St) : List V → List R → Prop
  | [], [] => True
  | v :: vs, r :: rs => SO F G σ v r ∧ SOA F G σ vs rs
  | _, _ => False
def LA (T : Tb) (K : PySem.W.Frag) (c : CA) : TA := fun σ H Q => ∃ F G ρ, F.K = K ∧ Rl F G H σ ρ ∧ evA T c ρ fun rs ρ' => ∀ vs G' H', Same G G' → Rl F G' H' σ ρ' → SOA F G' σ vs rs → Q vs H'
def LK (T : Tb) (K : PySem.W.Frag) (c : CA) : TA := fun σ H Q => ∃ F G ρ, F.K = K ∧ Rl F G H σ ρ ∧ evK T c ρ fun ds ρ' => ∀ vs G' H', Same G G' → Rl F G' H' σ ρ' → RpA F.K G' vs ds → Q vs H'
def LO (T : Tb) (K : PySem.W.Frag) (c : CO) : TO := fun σ H Q => ∃ F G ρ, F.K = K ∧ Rl F G H σ ρ ∧ evO T c ρ fun r ρ' => ∀ G' H', Same G G' → Rl F G' H' σ ρ' → Q r H'
def LT (T : Tb) (K : PySem.W.Frag) (c : CT) : TT := fun σ H Q => ∃ F G ρ, F.K = K ∧ Rl F G H σ ρ ∧ evT T c ρ fun b ρ' => ∀ G' H', Same G G' → Rl F G' H' σ ρ' → Q b H'
def LC (T : Tb) (K : PySem.W.Frag) (c : CC) : TT := fun σ H Q => ∃ F G ρ, F.K = K ∧ Rl F G H σ ρ ∧ evC T c ρ fun b ρ' => ∀ G' H', Same G G' → Rl F G' H' σ ρ' → Q b H'
section
variable {F : Fr} {G H : Hp} {σ : L2.St} {ρ : Sta}
theorem SO.mono {G' : Hp} {v : V} {r : R} (h : SO F G σ v r) (g : Same G G') : SO F G' σ v r := by
  cases r with
  | fz d => exact Rp.mono g h
  | ow d => exact Rp.mono g h
  | al i => exact h
theorem SOA.mono {G' : Hp} (g : Same G G') : ∀ {vs : List V} {rs : List R}, SOA F G σ vs rs → SOA F G' σ vs rs
  | [], [], _ => trivial
  | _ :: _, _ :: _, h => ⟨h.1.mono g, SOA.mono g h.2⟩
  | [], _ :: _, h => h
  | _ :: _, [], h => h
/-- a result as a stable operand -/
theorem opnd {v : V} {x : R} (r : Rl F G H σ ρ) (q : RR F G H σ ρ v x) : ∃ G', Same G G' ∧ Rl F G' H σ ρ ∧ SO F G' σ v x := by
  cases x with
  | fz d => exact ⟨G, Same.refl G, r, q⟩
  | al i => exact ⟨G, Same.refl G, r, q.2⟩
  | ow d =>
    obtain ⟨a, rfl, n⟩ := q
    obtain ⟨G', g, r', p⟩ := r.keepN n
    exact ⟨G', g, r', p⟩
theorem SO.opd {v : V} {x : R} (h : SO F G σ v x) : SO F G σ v (opd x) := by
  cases x <;> exact h
theorem SO.rd {v : V} {x : R} {P : D → Prop} (r : Rl F G H σ ρ) (h : SO F G σ v x) (q : rd ρ x P) : ∃ d, P d ∧ Ro F.K G H v d := by
  cases x with
  | fz d => exact ⟨d, q, Rp.ro h r.sub⟩
  | ow d => exact ⟨d, q, Rp.ro h r.sub⟩
  | al i =>
    simp only [DI.rd] at q
    split at q
    · rename_i d e
      obtain ⟨a, h1, _, _, h4⟩ := r.ow i d e
      have h : σ[i]? = some (some v) := h
      rw [h1] at h
      cases h
      exact ⟨d, q, h4.ro⟩
    · exact q.elim
theorem SOA.rd (r : Rl F G H σ ρ) : ∀ {vs : List V} {rs : List R} {P : List D → Prop}, SOA F G σ vs rs → rdA ρ rs P → ∃ ds, P ds ∧ RoA F.K G H vs ds
  | [], [], _, _, q => ⟨[], q, .nil⟩
  | v :: vs, x :: rs, P, h, q => by
    obtain ⟨d, q1, ro⟩ := SO.rd r h.1 q
    obtain ⟨ds, q2, roA⟩ := SOA.rd r h.2 q1
    exact ⟨d :: ds, q2, .cons ro roA⟩
  | [], _ :: _, _, h, _ => h.elim
  | _ :: _, [], _, h, _ => h.elim
/-- a result that is kept -/
theorem keepR {v : V} {x : R} {P : D → Sta → Prop} (r : Rl F G H σ ρ) (h : RR F G H σ ρ v x) (q : keep x ρ P) : ∃ G' d ρ', Same G G' ∧ Rl F G' H σ ρ' ∧ Rp F.K G' v d ∧ P d ρ' := by
  cases x with
  | fz d => exact ⟨G, d, ρ, Same.refl G, r, h, q⟩
  | ow d =>
    obtain ⟨a, rfl, n⟩ := h
    obtain ⟨G', g, r', p⟩ := r.keepN n
    exact ⟨G', d, ρ, g, r', p, q⟩
  | al i =>
    simp only [keep] at q
    split at q
    · rename_i d e
      obtain ⟨G', g, r', p⟩ := r.frzS e h.2
      exact ⟨G', d, _, g, r', p, q⟩
    · exact q.elim
end
theorem pe_imp {X : Cx} {e : Expr} {t t' : TE} (h : PE X e t) (f : ∀ σ H Q, t' σ H Q → t σ H Q) : PE X e t' := ⟨fun pins s σ H Q I q => h.run pins s σ H Q I (f _ _ _ q)⟩
theorem pt_imp {X : Cx} {e : Expr} {t t' : TT} (h : PT X e t) (f : ∀ σ H Q, t' σ H Q → t σ H Q) : PT X e t' := ⟨fun pins s σ H Q I q => h.run pins s σ H Q I (f _ _ _ q)⟩
theorem pw_imp {X : Cx} {e : Expr} {t t' : TT} (h : PW X e t) (f : ∀ σ H Q, t' σ H Q → t σ H Q) : PW X e t' := ⟨fun wh pins s σ H Q I q => h.run wh pins s σ H Q I (f _ _ _ q)⟩
theorem pa_imp {X : Cx} {es : List Expr} {t t' : TA} (h : PA X es t) (f : ∀ σ H Q, t' σ H Q → t σ H Q) : PA X es t' := ⟨fun pos pins s σ H Q I q => h.run pos pins s σ H Q I (f _ _ _ q)⟩
theorem po_imp {X : Cx} {e : Option Expr} {t t' : TO} (h : PO X e t) (f : ∀ σ H Q, t' σ H Q → t σ H Q) : PO X e t' := ⟨fun pins s σ H Q I q => h.run pins s σ H Q I (f _ _ _ q)⟩
theorem ps_imp {X : Cx} {e : Stmt} {t t' : TS} (h : PS X e t) (f : ∀ D σ H, t' D σ H → t D σ H) : PS X e t' := ⟨fun pins s σ H D I q => h.run pins s σ H D I (f _ _ _ q)⟩
theorem pss_imp {X : Cx} {e : List Stmt} {t t' : TS} (h : PSs X e t) (f : ∀ D σ H, t' D σ H → t D σ H) : PSs X e t' := ⟨fun pins s σ H D I q => h.run pins s σ H D I (f _ _ _ q)⟩
theorem pi_imp {X : Cx} {tg e : Expr} {t t' : TI} (h : PI X tg e t) (f : ∀ σ H Q, t' σ H Q → t σ H Q) : PI X tg e t' := ⟨fun pins s σ H Q I q => h.run pins s σ H Q I (f _ _ _ q)⟩
theorem pts_imp {X : Cx} {e : List Expr} {t t' : TT} (h : PTs X e t) (f : ∀ σ H Q, t' σ H Q → t σ H Q) : PTs X e t' := ⟨fun pins s σ H Q I q => h.run pins s σ H Q I (f _ _ _ q)⟩
end DI

set_option Elab.async false
set_option linter.all false
set_option autoImplicit false
set_option maxRecDepth 100000
set_option maxHeartbeats 1000000
/-! DI3b: how a body of the text is checked to be a body of the small language. -/
namespace DI
open PySem PySem.Spec PyProof.Rows L2

structure SC where
  N : List Str
  sc : Scope
  fnm : Str → Bool
  n : Nat
  fn : Nat → Str
  ng : Nat
  gl : Nat → Str

def visB (sc : Scope) (x : Str) : Bool := match sc.names.lookup x with
  | some .local => true
  | some .cell => true
  | some .free => true
  | _ => false
def locB (S : SC) (x : Str) : Bool := match S.sc.names.lookup x with
  | some .local => true
  | some .cell => S.fnm x
  | _ => false
def isLoc (sc : Scope) (x : Str) : Bool := match sc.names.lookup x with
  | some .local => true
  | _ => false
def gloB (sc : Scope) (x : Str) : Bool := match sc.names.lookup x with
  | some .globalImplicit => true
  | _ => false
def noStar : Expr → Bool
  | .Starred _ _ => false
  | _ => true
def noSlice : Expr → Bool
  | .Slice _ _ _ _ => false
  | _ => true
def noComp : Expr → Bool
  | .ListComp _ _ _ _ => false
  | .SetComp _ _ _ _ => false
  | .DictComp _ _ _ _ _ => false
  | _ => true
def noSet : Expr → Bool
  | .Set _ _ _ => false
  | _ => true
def noTup : Expr → Bool
  | .Tuple _ _ _ => false
  | _ => true
def plainT : Expr → Bool
  | .UnaryOp _ _ _ => false
  | .BoolOp _ _ _ => false
  | .IfExp _ _ _ _ => false
  | .Compare _ _ _ _ => false
  | _ => true
def isBin : O2 → Operator → Bool
  | .add, .Add => true
  | .sub, .Sub => true
  | .mul, .Mult => true
  | .mod, .Mod => true
  | .fdiv, .FloorDiv => true
  | .pow, .Pow => true
  | _, _ => false
def isCmp : O2 → CmpOp → Bool
  | .eq, .Eq => true
  | .ne, .NotEq => true
  | .lt, .Lt => true
  | .le, .LtE => true
  | .gt, .Gt => true
  | .ge, .GtE => true
  | .isin, .In => true
  | .notin, .NotIn => true
  | .is, .Is => true
  | .isnot, .IsNot => true
  | _, _ => false
def isIdx : O2 → Bool
  | .ix => true
  | _ => false
def conB : D → Const → Bool
  | .non, .none => true
  | .bl b, .bool c => b == c
  | .int i, .int j => i == j
  | .str x, .str y => decide (x = y)
  | _, _ => false
def B1.name : B1 → Str
  | .len => "len"
  | .abs => "abs"
  | .int => "int"
  | .str => "str"
  | .list => "list"
  | .tuple => "tuple"
  | .sorted => "sorted"
  | .repr => "repr"
  | .all => "all"
  | .any => "any"
  | .sum => "sum"
  | .isi => "isinstance"
  | .dict => "dict"
def tyNames : List String := ["list", "tuple", "str", "int", "bool", "dict"]
def M2.name : M2 → Str
  | .append => "append"
  | .extend => "extend"
  | .pop => "pop"
  | .popAt => "pop"
  | .insert => "insert"
def M2.args : M2 → Bool
  | .pop => false
  | _ => true
def nameIs (S : SC) (i : Nat) (x : Str) : Bool := decide (S.N[i]? = some x) && visB S.sc x && !(x == ("__debug__" : Str)) && !(x == ("__classdict__" : Str))
def tgtIs (S : SC) (i : Nat) (x : Str) : Bool := decide (S.N[i]? = some x) && locB S x
def SC.blk (S : SC) (scope : Scope) : SC := { S with sc := relS scope S.sc, fnm := fun x => scope.names.lookup x == some .cell }
def chkNs (S : SC) : List Nat → List Expr → Bool
  | [], [] => true
  | i :: is, e :: es => (match e with
    | .Name x _ => tgtIs S i x
    | _ => false) && chkNs S is es
  | _, _ => false
def chkG (S : SC) : CG → Expr → Bool
  | .name i, e => match e with
    | .Name x _ => tgtIs S i x
    | _ => false
  | .tup is, e => match e with
    | .Tuple es _ _ => chkNs S is es
    | _ => false
def ownIs (own : List (Str × Nat)) (is : List Nat) : Bool := decide (own.map (·.2) = is)
def ownOf (N : List Str) (is : List Nat) : List (Str × Nat) := is.map fun i => (N.getD i "", i)

/-- the own slots of a comprehension hold its target -/
def gIn : CG → List Nat → Bool
  | .name i, own => own.contains i
  | .tup is, own => is.all own.contains

def N1.name : N1 → Str
  | .split => "split"
def baseOk : Expr → Bool
  | .Constant _ _ _ => true
  | .Name _ _ => true
  | _ => false
def baseOk2 : Expr → Bool
  | .Constant _ _ _ => true
  | .Name _ _ => true
  | .Subscript _ _ _ => true
  | .Call _ (_ :: _) _ _ => true
  | _ => false
mutual
def chkE (S : SC) : CE → Expr → Bool
  | .var i, e => match e with
    | .Name x _ => nameIs S i x
    | _ => false
  | .con d, e => match e with
    | .Constant c _ _ => conB d c
    | _ => false
  | .glo k, e => match e with
    | .Name x _ => decide (k < S.ng) && decide (S.gl k = x) && gloB S.sc x && !(x == ("__debug__" : Str))
    | _ => false
  | .op2 o a b, e => match e with
    | .BinOp x op y _ => isBin o op && chkE S a x && chkE S b y
    | .Compare x [op] [y] _ => isCmp o op && chkE S a x && chkE S b y && !behindInMarks op y
    | .Subscript x y _ => isIdx o && chkE S a x && chkE S b y && noSlice y
    | _ => false
  | .op1 o a, e => match e with
    | .UnaryOp .USub x _ => chkE S a x
    | _ => false
  | .and a b, e => match e with
    | .BoolOp .And [x, y] _ => chkE S a x && chkE S b y
    | .BoolOp .And (x :: y :: z :: rest) p => chkE S a x && chkE S b (.BoolOp .And (y :: z :: rest) p)
    | _ => false
  | .or a b, e => match e with
    | .BoolOp .Or [x, y] _ => chkE S a x && chkE S b y
    | .BoolOp .Or (x :: y :: z :: rest) p => chkE S a x && chkE S b (.BoolOp .Or (y :: z :: rest) p)
    | _ => false
  | .not a, e => match e with
    | .UnaryOp .Not x _ => chkE S a x
    | _ => false
  | .ifx c a b, e => match e with
    | .IfExp t x y _ => chkT S c t && chkE S a x && chkE S b y
    | _ => false
  | .lst es, e => match e with
    | .List xs _ => chkA S es xs
    | _ => false
  | .tup es, e => match e with
    | .Tuple xs _ _ => chkA S es xs
    | _ => false
  | .slc a lo hi, e => match e with
    | .Subscript x (.Slice l h none _) _ => chkE S a x && chkO S lo l && chkO S hi h
    | _ => false
  | .bi b es, e => match e with
    | .Call (.Name x _) (y :: ys) [] _ => decide (x = b.name) && gloB S.sc x && chkA S es (y :: ys)
    | _ => false
  | .mut m i es, e => match e with
    | .Call (.Attribute (.Name x _) a apos) ys [] cpos => decide (a = m.name) && nameIs S i x && (apos.endLine == cpos.line) && (match ys with
      | [] => !m.args
      | _ :: _ => m.args && decide (ys.length < 30)) && chkA S es ys
    | _ => false
  | .call k es, e => match e with
    | .Call (.Name x _) (y :: ys) [] _ => decide (k < S.n) && decide (S.fn k = x) && gloB S.sc x && !(x == ("__debug__" : Str)) && chkA S es (y :: ys)
    | _ => false
  | .meth m a y, e => match e with
    | .Call (.Attribute o nm apos) [x] [] cpos => decide (nm = m.name) && baseOk o && (apos.endLine == cpos.line) && noStar x && chkE S a o && chkE S y x
    | _ => false
  | .sset y, e => match e with
    | .Call (.Name f _) [.Call (.Name g _) [x] [] _] [] _ => decide (f = "sorted") && decide (g = "set") && gloB S.sc f && gloB S.sc g && noStar x && chkE S y x
    | _ => false
  | .dn1 k v, e => match e with
    | .Dict [some x] [y] _ => chkE S k x && chkE S v y
    | _ => false
  | .tyc n, e => match e with
    | .Name x _ => decide (x = Str.ofString n) && decide (n ∈ tyNames) && gloB S.sc x
    | _ => false
  | .dk0, e => match e with
    | .Dict [] [] _ => true
    | _ => false
  | .dk1 x v, e => match e with
    | .Dict [some (.Constant (.str y) _ _)] [z] _ => decide (x = y) && chkE S v z
    | _ => false
  | .upper a, e => match e with
    | .Call (.Attribute o nm apos) [] [] cpos => decide (nm = "upper") && baseOk2 o && (apos.endLine == cpos.line) && chkE S a o
    | _ => false
  | .cnt a y, e => match e with
    | .Call (.Attribute o nm apos) [x] [] cpos => decide (nm = "count") && baseOk2 o && (apos.endLine == cpos.line) && noStar x && chkE S a o && chkE S y x
    | _ => false
  | .compk own g i c e', e => match e with
    | .ListComp elt [⟨tg, .Name x _, ifs, 0⟩] scope _ => blkC S.N S.sc scope (ownOf S.N own) && nameIs S i x && chkG (S.blk scope) g tg && chkC (S.blk scope) c ifs && chkE (S.blk scope) e' elt && gIn g own
    | _ => false
  | .comp own g it c e', e => match e with
    | .ListComp elt [⟨tg, iter, ifs, 0⟩] scope _ => blkC S.N S.sc scope (ownOf S.N own) && chkI S it tg iter && chkG (S.blk scope) g tg && chkC (S.blk scope) c ifs && chkE (S.blk scope) e' elt && noSet iter && gIn g own
    | _ => false
def chkA (S : SC) : CA → List Expr → Bool
  | .nil, es => es.isEmpty
  | .cons c cs, es => match es with
    | e :: es => noStar e && chkE S c e && chkA S cs es
    | [] => false
def chkO (S : SC) : CO → Option Expr → Bool
  | .none, e => e.isNone
  | .some c, e => match e with
    | some e => chkE S c e
    | none => false
def chkC (S : SC) : CC → List Expr → Bool
  | .none, es => es.isEmpty
  | .some c, es => match es with
    | [e] => chkT S c e
    | _ => false
def chkT (S : SC) : CT → Expr → Bool
  | .cmp o a b, e => match e with
    | .Compare x [op] [y] _ => isCmp o op && chkE S a x && chkE S b y && !behindInMarks op y
    | _ => false
  | .and a b, e => match e with
    | .BoolOp .And [x, y] _ => chkT S a x && chkT S b y
    | .BoolOp .And (x :: y :: z :: rest) p => chkT S a x && chkT S b (.BoolOp .And (y :: z :: rest) p)
    | _ => false
  | .or a b, e => match e with
    | .BoolOp .Or [x, y] _ => chkT S a x && chkT S b y
    | .BoolOp .Or (x :: y :: z :: rest) p => chkT S a x && chkT S b (.BoolOp .Or (y :: z :: rest) p)
    | _ => false
  | .not a, e => match e with
    | .UnaryOp .Not x _ => chkT S a x
    | _ => false
  | .val c, e => plainT e && chkE S c e
def chkI (S : SC) : CI → Expr → Expr → Bool
  | .seq c, _, e => chkE S c e
  | .range cs, _, e => match e with
    | .Call (.Name x _) [a] [] _ => decide (x = "range") && gloB S.sc x && noStar a && chkA S cs [a]
    | .Call (.Name x _) [a, b] [] _ => decide (x = "range") && gloB S.sc x && noStar a && noStar b && chkA S cs [a, b]
    | _ => false
  | .enum c, tg, e => match e, tg with
    | .Call (.Name x _) [a] [] _, .Tuple _ _ _ => decide (x = "enumerate") && gloB S.sc x && noStar a && chkE S c a
    | _, _ => false
end
end DI

set_option Elab.async false
set_option linter.all false
set_option autoImplicit false
set_option maxRecDepth 100000
set_option maxHeartbeats 1000000
/-! DI0c: more about states: behind a call, in a comprehension. -/
namespace DI
open PySem PySem.Spec PyProof.Rows L2
section
variable {F : Fr} {G H : Hp} {σ : L2.St} {ρ : Sta}
/-- the heap has grown, the bag may have changed -/
structure GwB (K : PySem.W.Frag) (β : Option Bag) (G H G' H' : Hp) : Prop where
  g : Same G G'
  s : Same G' H'
  h : ∀ a, H a ≠ none → nbag β a → H' a = H a
  n : ∀ a, H a ≠ none → G a = none → G' a = none
  b : ∀ b, β = some b → BagOk K G' H' b
theorem Rl.growB {G' H' : Hp} (r : Rl F G H σ ρ) (w : GwB F.K ρ.bag G H G' H') : Rl F G' H' σ ρ := by
  refine ⟨w.s, fun a h => ?_, r.len, fun i d e => ?_, fun i d e => ?_, r.ap, w.b, r.bo⟩
  · obtain ⟨q1, q2, q3, q4⟩ := r.fr a h
    have e := w.h a q3 q4
    exact ⟨w.n a q3 q1, e.trans q2, by rw [e]; exact q3, q4⟩
  · obtain ⟨v, h1, h2⟩ := r.fz i d e
    exact ⟨v, h1, h2.mono w.g⟩
  · obtain ⟨a, h1, h2, h3, h4⟩ := r.ow i d e
    exact ⟨a, h1, h2, w.n a h4.some h3, h4.sub w.g (w.h a h4.some fun b z q => r.bo b i d z e (by rw [q]; exact h1))⟩
theorem Ok2.gwB {K : PySem.W.Frag} {β : Option Bag} {G' H' : Hp} (o : Ok2 K β G H G' H') (hs : Same G H) : GwB K β G H G' H' := by
  refine ⟨o.g, o.s, fun a h hb => ?_, fun a h n => (o.k a h n).1, o.b⟩
  cases e : G a with
  | none => exact (o.k a h e).2 hb
  | some x => rw [o.s _ _ (o.g _ _ e), hs _ _ e]
/-- what was taken into the frozen part for a call is given back -/
theorem Ok2.back {K : PySem.W.Frag} {β : Option Bag} {Gf G' H' : Hp} (o : Ok2 K β Gf H G' H') (hs : Same Gf H) (hg : Same G Gf) (ob : ∀ b, β = some b → BagOk K G H b) : ∃ G'', GwB K β G H G'' H' ∧ Same G'' G' := by
  let G2 : Hp := fun a => if G a = none ∧ H a ≠ none then none else G' a
  have g2 : ∀ a x, G2 a = some x → G' a = some x := fun a x e => by
    have e : (if G a = none ∧ H a ≠ none then none else G' a) = some x := e
    split at e
    · cases e
    · exact e
  have g3 : ∀ a x, G a = some x → G2 a = some x := fun a x e => by
    show (if G a = none ∧ H a ≠ none then none else G' a) = some x
    rw [if_neg (by rw [e]; exact fun z => nomatch z.1)]
    exact o.g _ _ (hg _ _ e)
  have g4 : ∀ a, H a ≠ none → G a = none → G2 a = none := fun a h n => by
    show (if G a = none ∧ H a ≠ none then none else G' a) = none
    rw [if_pos ⟨n, h⟩]
  refine ⟨G2, ⟨g3, fun a x e => o.s _ _ (g2 a x e), fun a h hb => (o.gwB hs).h a h hb, g4, fun b hb => ?_⟩, g2⟩
  obtain ⟨h1, x, m, c, ns, h2, h3, h4⟩ := o.b b hb
  have q := ob b hb
  have q2 := q.some
  obtain ⟨p1, x', m', c', ns', p2, p3, p4⟩ := q
  refine ⟨g4 b.1 q2 p1, x, m, c, ns, h2, ?_, h4⟩
  have e := o.g _ _ (hg _ _ p3)
  rw [e] at h3
  rw [g3 _ _ p3]
  exact h3
/-- a new list is changed -/
theorem Rl.mutN {a : Addr} {d d' : D} {o : HO} (r : Rl F G H σ ρ) (n : Nw F G H σ ρ a d) (c : Con F.K G (upd H a o) a d') : Rl F G (upd H a o) σ ρ ∧ Nw F G (upd H a o) σ ρ a d' := by
  have hsub : Same G (upd H a o) := fun b x e => by
    have hb : b ≠ a := fun z => by rw [z, n.gn] at e; cases e
    rw [upd_ne hb]; exact r.sub _ _ e
  refine ⟨⟨hsub, fun b q => ?_, r.len, r.fz, fun j e q => ?_, r.ap, fun b e => ?_, r.bo⟩, ⟨n.np, n.gn, c, n.sl, n.bg⟩⟩
  · have hb : b ≠ a := fun z => n.np (z ▸ q)
    rw [upd_ne hb]; exact r.fr b q
  · obtain ⟨b, q1, q2, q3, q4⟩ := r.ow j e q
    have hb : b ≠ a := fun z => n.sl j e q (z ▸ q1)
    exact ⟨b, q1, q2, q3, q4.sub (Same.refl G) (upd_ne hb)⟩
  · have q := r.bg b e
    exact q.sub (Same.refl G) q.1 (upd_ne (n.bg b e))
/-! ### the slots of a comprehension -/
theorem wipes_len (ρ : Sta) : ∀ is : List Nat, (wipes ρ is).sl.length = ρ.sl.length
  | [] => rfl
  | i :: is => by rw [wipes, put_sl, List.length_set]; exact wipes_len ρ is
theorem wipes_bag (ρ : Sta) : ∀ is : List Nat, (wipes ρ is).bag = ρ.bag
  | [] => rfl
  | i :: is => by rw [wipes, put_bag]; exact wipes_bag ρ is
theorem wipes_fz {ρ : Sta} {j : Nat} {d : D} : ∀ {is : List Nat}, (wipes ρ is).sl[j]? = some (.fz d) → ρ.sl[j]? = some (.fz d) ∧ j ∉ is
  | [], h => ⟨h, by simp⟩
  | i :: is, h => by
    rcases put_at h with ⟨e, z⟩ | ⟨ne, h⟩
    · cases z
    · obtain ⟨h1, h2⟩ := wipes_fz h
      exact ⟨h1, by rw [List.mem_cons, not_or]; exact ⟨ne, h2⟩⟩
theorem wipes_ow {ρ : Sta} {j : Nat} {d : D} : ∀ {is : List Nat}, (wipes ρ is).sl[j]? = some (.ow d) → ρ.sl[j]? = some (.ow d) ∧ j ∉ is
  | [], h => ⟨h, by simp⟩
  | i :: is, h => by
    rcases put_at h with ⟨e, z⟩ | ⟨ne, h⟩
    · cases z
    · obtain ⟨h1, h2⟩ := wipes_ow h
      exact ⟨h1, by rw [List.mem_cons, not_or]; exact ⟨ne, h2⟩⟩
theorem wipe_off {σ : L2.St} {j : Nat} : ∀ {is : List Nat}, j ∉ is → (wipe σ is)[j]? = σ[j]?
  | [], _ => rfl
  | i :: is, h => by
    rw [List.mem_cons, not_or] at h
    unfold wipe
    rw [List.getElem?_set_ne (Ne.symm h.1)]
    exact wipe_off h.2
theorem wipe_on {σ : L2.St} {j : Nat} (hj : j < σ.length) : ∀ {is : List Nat}, j ∈ is → (wipe σ is)[j]? = some none
  | [], h => by simp at h
  | i :: is, h => by
    unfold wipe
    by_cases e : j = i
    · subst e
      rw [List.getElem?_set_self (by rw [wipe_length]; exact hj)]
    · rw [List.getElem?_set_ne (Ne.symm e)]
      exact wipe_on hj ((List.mem_cons.mp h).resolve_left e)
theorem wipe_eq {σ σ' : L2.St} {is : List Nat} (hl : σ'.length = σ.length) (h : ∀ j, j ∉ is → σ'[j]? = σ[j]?) : wipe σ' is = wipe σ is := by
  apply List.ext_getElem?
  intro j
  by_cases hj : j ∈ is
  · by_cases hb : j < σ.length
    · rw [wipe_on hb hj, wipe_on (by omega) hj]
    · rw [List.getElem?_eq_none (by rw [wipe_length]; omega), List.getElem?_eq_none (by rw [wipe_length]; omega)]
  · rw [wipe_off hj, wipe_off hj]
    exact h j hj
theorem wipe_wipe (σ : L2.St) (is : List Nat) : wipe (wipe σ is) is = wipe σ is := wipe_eq (wipe_length σ is) fun _ h => wipe_off h
theorem Rl.wipe {is : List Nat} (r : Rl F G H σ ρ) : Rl F G H (L2.wipe σ is) (wipes ρ is) := by
  refine ⟨r.sub, fun a h => by rw [wipes_bag]; exact r.fr a h, by rw [wipe_length, wipes_len]; exact r.len, fun i d e => ?_, fun i d e => ?_, fun i j d e a h1 h2 s1 s2 => ?_, fun b h => r.bg b (by rw [← wipes_bag ρ is]; exact h), fun b i d h e => ?_⟩
  · obtain ⟨h1, h2⟩ := wipes_fz e
    rw [wipe_off h2]; exact r.fz i d h1
  · obtain ⟨h1, h2⟩ := wipes_ow e
    rw [wipe_off h2]; exact r.ow i d h1
  · obtain ⟨p1, p2⟩ := wipes_ow h1
    obtain ⟨p3, p4⟩ := wipes_ow h2
    rw [wipe_off p2] at s1
    rw [wipe_off p4] at s2
    exact r.ap i j d e a p1 p3 s1 s2
  · obtain ⟨h1, h2⟩ := wipes_ow e
    rw [wipe_off h2]; exact r.bo b i d (by rw [← wipes_bag ρ is]; exact h) h1
theorem Nw.wipe {is : List Nat} {a : Addr} {d : D} (n : Nw F G H σ ρ a d) : Nw F G H (L2.wipe σ is) (wipes ρ is) a d :=
  ⟨n.np, n.gn, n.con, fun i e h => by
    obtain ⟨h1, h2⟩ := wipes_ow h
    rw [wipe_off h2]; exact n.sl i e h1, by rw [wipes_bag]; exact n.bg⟩
theorem backs_len (ρ0 ρ : Sta) : ∀ is : List Nat, (backs ρ0 ρ is).sl.length = ρ.sl.length
  | [] => rfl
  | i :: is => by rw [backs, put_sl, List.length_set]; exact backs_len ρ0 ρ is
theorem backs_bag (ρ0 ρ : Sta) : ∀ is : List Nat, (backs ρ0 ρ is).bag = ρ.bag
  | [] => rfl
  | i :: is => by rw [backs, put_bag]; exact backs_bag ρ0 ρ is
theorem backs_fz {ρ0 ρ : Sta} {j : Nat} {d : D} : ∀ {is : List Nat}, (backs ρ0 ρ is).sl[j]? = some (.fz d) → (j ∈ is ∧ ρ0.sl[j]? = some (.fz d)) ∨ (j ∉ is ∧ ρ.sl[j]? = some (.fz d))
  | [], h => .inr ⟨by simp, h⟩
  | i :: is, h => by
    rcases put_at h with ⟨e, z⟩ | ⟨ne, h⟩
    · subst e
      split at z
      · rename_i d' q
        cases z
        exact .inl ⟨by simp, q⟩
      · cases z
    · rcases backs_fz h with ⟨h1, h2⟩ | ⟨h1, h2⟩
      · exact .inl ⟨List.mem_cons_of_mem _ h1, h2⟩
      · exact .inr ⟨by rw [List.mem_cons, not_or]; exact ⟨ne, h1⟩, h2⟩
theorem backs_ow {ρ0 ρ : Sta} {j : Nat} {d : D} : ∀ {is : List Nat}, (backs ρ0 ρ is).sl[j]? = some (.ow d) → j ∉ is ∧ ρ.sl[j]? = some (.ow d)
  | [], h => ⟨by simp, h⟩
  | i :: is, h => by
    rcases put_at h with ⟨e, z⟩ | ⟨ne, h⟩
    · subst e
      split at z <;> cases z
    · obtain ⟨h1, h2⟩ := backs_ow h
      exact ⟨by rw [List.mem_cons, not_or]; exact ⟨ne, h1⟩, h2⟩
theorem Rl.backs {is : List Nat} {G1 H1 : Hp} {ρ1 : Sta} (r : Rl F G H (L2.wipe σ is) ρ) (r1 : Rl F G1 H1 σ ρ1) (g : Same G1 G) : Rl F G H σ (DI.backs ρ1 ρ is) := by
  refine ⟨r.sub, fun a h => by rw [backs_bag]; exact r.fr a h, ?_, fun i d e => ?_, fun i d e => ?_, fun i j d e a h1 h2 s1 s2 => ?_, fun b h => r.bg b (by rw [← backs_bag ρ1 ρ is]; exact h), fun b i d h e => ?_⟩
  · rw [backs_len, ← r.len, wipe_length]
  · rcases backs_fz e with ⟨h1, h2⟩ | ⟨h1, h2⟩
    · obtain ⟨v, q1, q2⟩ := r1.fz i d h2
      exact ⟨v, q1, q2.mono g⟩
    · have q := r.fz i d h2
      rwa [wipe_off h1] at q
  · obtain ⟨h1, h2⟩ := backs_ow e
    have q := r.ow i d h2
    rwa [wipe_off h1] at q
  · obtain ⟨p1, p2⟩ := backs_ow h1
    obtain ⟨p3, p4⟩ := backs_ow h2
    refine r.ap i j d e a p2 p4 ?_ ?_
    · rw [wipe_off p1]; exact s1
    · rw [wipe_off p3]; exact s2
  · obtain ⟨h1, h2⟩ := backs_ow e
    have q := r.bo b i d (by rw [← backs_bag ρ1 ρ is]; exact h) h2
    rwa [wipe_off h1] at q
theorem Nw.backs {is : List Nat} {ρ1 : Sta} {a : Addr} {d : D} (n : Nw F G H (L2.wipe σ is) ρ a d) : Nw F G H σ (DI.backs ρ1 ρ is) a d :=
  ⟨n.np, n.gn, n.con, fun i e h => by
    obtain ⟨h1, h2⟩ := backs_ow h
    have q := n.sl i e h2
    rwa [wipe_off h1] at q, by rw [backs_bag]; exact n.bg⟩
/-- a list of names takes the items of a tuple -/
theorem asgN_rl : ∀ {is : List Nat} {ds : List D} {vs : List V} {σ : L2.St} {ρ ρ' : Sta}, Rl F G H σ ρ → RpA F.K G vs ds → asgN is ds ρ = some ρ' → Rl F G H ((is.zip vs).foldl (fun s p => s.set p.1 (some p.2)) σ) ρ'
  | [], [], vs, σ, ρ, ρ', r, h, e => by
    cases h; cases e; exact r
  | i :: is, d :: ds, _, σ, ρ, ρ', r, .cons (v := v) h1 h2, e => by
    have r2 := r.put_fz (i := i) h1
    exact asgN_rl (is := is) r2 h2 e
  | [], _ :: _, _, _, _, _, _, _, e => by cases e
  | _ :: _, [], _, _, _, _, _, _, e => by cases e
theorem asgN_len : ∀ {is : List Nat} {ds : List D} {ρ ρ' : Sta}, asgN is ds ρ = some ρ' → is.length = ds.length
  | [], [], _, _, _ => rfl
  | i :: is, d :: ds, ρ, ρ', e => by
    rw [List.length_cons, List.length_cons, asgN_len (is := is) (ds := ds) e]
  | [], _ :: _, _, _, e => by cases e
  | _ :: _, [], _, _, e => by cases e
theorem fold_len : ∀ (l : List (Nat × V)) (σ : L2.St), (l.foldl (fun s p => s.set p.1 (some p.2)) σ).length = σ.length
  | [], _ => rfl
  | p :: l, σ => by
    rw [List.foldl_cons, fold_len l, List.length_set]
theorem fold_off {j : Nat} : ∀ {l : List (Nat × V)} {σ : L2.St}, (∀ p ∈ l, p.1 ≠ j) → (l.foldl (fun s p => s.set p.1 (some p.2)) σ)[j]? = σ[j]?
  | [], _, _ => rfl
  | p :: l, σ, h => by
    rw [List.foldl_cons, fold_off (fun q hq => h q (List.mem_cons_of_mem _ hq)), List.getElem?_set_ne (h p (by simp))]
end
end DI

set_option Elab.async false
set_option linter.all false
set_option autoImplicit false
set_option maxRecDepth 100000
set_option maxHeartbeats 1000000
/-! DI3c: the context of a body; targets; what is walked; small facts about the text. -/
namespace DI
open PySem PySem.Spec PyProof.Rows L2

def bnames : List Str := ["len", "abs", "int", "str", "list", "tuple", "sorted", "repr", "all", "any", "sum", "range", "enumerate", "isinstance", "dict", "set", "zip", "bool"]
def FnAt (T : Tb) (X : Cx) (x : Str) (k : Nat) : Prop := ∃ (f : Addr) (fd : FuncData) (ps : List Str) (lv : Nat), X.mg x = some (.ref f) ∧ PySem.W.keepIn X.K (.ref f) = true ∧ Binds X.K fd ps [] ∧ Room lv X.A ∧
  FnG X.prog X.w X.K X.mg X.base lv f fd ps (liftSp X.K (T.fn k))
structure CxOk (T : Tb) (X : Cx) (S : SC) : Prop where
  good : Good X
  hW : T.W = (X.prog, X.w)
  hN : X.N = S.N
  hsc : X.env.scope = S.sc
  hfn : X.fn = S.fnm
  kind : S.sc.kind = .function
  nd : X.N.Nodup
  tm : T.Mono
  bfree : ∀ x ∈ bnames, X.mg x = none
  fns : ∀ k, k < S.n → FnAt T X (S.fn k) k
  gls : ∀ k, k < S.ng → ∃ v u, X.mg (S.gl k) = some u ∧ RelV v u ∧ ∀ G, Rp X.K G v (T.gl k)
  pass : PassesOwn (model X.prog X.w) X.A X.env X.xe

section
variable {T : Tb} {X : Cx} {S : SC}
theorem vis_of (c : CxOk T X S) {x : Str} (h : visB S.sc x = true) : Vis X.env.scope x := by
  unfold visB at h
  unfold Vis
  rw [c.hsc]
  split at h
  · exact .inl (by assumption)
  · exact .inr (.inl (by assumption))
  · exact .inr (.inr (by assumption))
  · cases h
theorem glo_of (c : CxOk T X S) {x : Str} (h : gloB S.sc x = true) : Gl X x := by
  unfold gloB at h
  show X.env.scope.names.lookup x = _
  rw [c.hsc]
  split at h
  · assumption
  · cases h
theorem loc_of (c : CxOk T X S) {x : Str} (h : locB S x = true) : L2.Loc X.env.scope x ∧ (X.fn x = true ∨ X.env.scope.names.lookup x = some .local) := by
  unfold locB at h
  unfold L2.Loc
  rw [c.hsc, c.hfn]
  split at h
  · exact ⟨.inl (by assumption), .inr (by assumption)⟩
  · exact ⟨.inr (by assumption), .inl h⟩
  · cases h
theorem name_of (c : CxOk T X S) {i : Nat} {x : Str} {pos : Pos} (h : nameIs S i x = true) : PE X (.Name x pos) (tVar i) := by
  unfold nameIs at h
  simp only [Bool.and_eq_true, decide_eq_true_eq, Bool.not_eq_true'] at h
  exact pe_var (by rw [c.hN]; exact h.1.1.1) (vis_of c h.1.1.2) h.1.2 h.2
/-! ### the text -/
theorem star_of {e : Expr} {es : List Expr} {env : PySem.Env} (h : noStar e = true) : starEach (e :: es) env = (false, eval e env) :: starEach es env := by
  cases e <;> first | rfl | cases h
theorem chkA_star {cs : CA} {es : List Expr} (h : chkA S cs es = true) : ∀ env pos, (backTo pos (starEach es env)).any (·.1) = false ∧ (backTo pos (starEach es env)).all (fun x => !x.1) = true := by
  induction es generalizing cs with
  | nil => intro env pos; exact ⟨rfl, rfl⟩
  | cons e es ih =>
    intro env pos
    cases cs with
    | nil => simp [chkA] at h
    | cons c cs =>
      simp only [chkA, Bool.and_eq_true] at h
      rw [star_of h.1.1]
      have q := ih h.2 env pos
      unfold backTo at q ⊢
      rw [List.map_cons, List.any_cons, List.all_cons]
      exact ⟨by simpa using q.1, by simpa using q.2⟩
theorem chkA_head {cs : CA} {e : Expr} {es : List Expr} (h : chkA S cs (e :: es) = true) : noStar e = true := by
  cases cs with
  | nil => simp [chkA] at h
  | cons c cs => simp only [chkA, Bool.and_eq_true] at h; exact h.1.1
theorem ix_of {b : Expr} (h : noSlice b = true) : PlainIx b := by
  intro o i
  cases b <;> first | rfl | cases h
theorem plain_of {e : Expr} (h : plainT e = true) (env : PySem.Env) : ∀ whole, isTrue e env whole = (do let v ← whole; standAt e.pos; holding [v] (truthy v)) := by
  intro whole
  cases e <;> first | rfl | cases h
theorem set_of {e : Expr} (h : noSet e = true) (env : PySem.Env) : ∀ x, foldedSetIterable e env x = pure x := by
  intro x
  cases e <;> first | rfl | cases h
theorem swap_of {e : Expr} (h : noComp e = true) (t : Option Expr) (l : Nat) (env : PySem.Env) : swapsWith e t l env = pure false := by
  cases e <;> first | rfl | cases h
theorem isBin_of {o : O2} {op : Operator} (h : isBin o op = true) : o.sort = .bin op := by
  cases o <;> cases op <;> first | rfl | cases h
theorem isCmp_of {o : O2} {op : CmpOp} (h : isCmp o op = true) : o.sort = .cmp op := by
  cases o <;> cases op <;> first | rfl | cases h
theorem isIdx_of {o : O2} (h : isIdx o = true) : o.sort = .idx := by
  cases o <;> first | rfl | cases h

/-! ### targets -/
def CG.slots : CG → List Nat
  | .name i => [i]
  | .tup is => is
def LG (K : PySem.W.Frag) (g : CG) : TG := fun x σ H Q => ∃ F G ρ d, F.K = K ∧ Rl F G H σ ρ ∧ Rp F.K G x d ∧ asgG g d ρ fun ρ' => ∀ σ', σ'.length = σ.length → (∀ j, j ∉ g.slots → σ'[j]? = σ[j]?) → Rl F G H σ' ρ' → Q σ' H
theorem tgt_of (c : CxOk T X S) {i : Nat} {x : Str} {pos : Pos} (h : tgtIs S i x = true) : PG X (.Name x pos) (gName i) := by
  unfold tgtIs at h
  simp only [Bool.and_eq_true, decide_eq_true_eq] at h
  obtain ⟨h1, h2⟩ := loc_of c h.2
  exact pg_name c.nd (by rw [c.hN]; exact h.1) h1 h2
def gNs : List Nat → TGs
  | [] => gNil
  | i :: is => gCons (gName i) (gNs is)
theorem tgts_of (c : CxOk T X S) : ∀ {is : List Nat} {es : List Expr}, chkNs S is es = true → PGs X es (gNs is) ∧ (assignEach es X.env).length = is.length ∧ (assignEach es X.env).findIdx? (·.1) = none
  | [], [], _ => ⟨pgs_nil, rfl, rfl⟩
  | i :: is, e :: es, h => by
    simp only [chkNs, Bool.and_eq_true] at h
    obtain ⟨h1, h2⟩ := h
    split at h1
    · obtain ⟨q1, q2, q3⟩ := tgts_of c (is := is) (es := es) h2
      refine ⟨pgs_cons (tgt_of c h1) q1 rfl, ?_, ?_⟩
      · show (assignEach es X.env).length + 1 = is.length + 1
        rw [q2]
      · show List.findIdx? (fun x => x.1) ((false, _) :: assignEach es X.env) = none
        rw [List.findIdx?_cons]
        simp [q3]
    · cases h1
  | [], _ :: _, h => by simp [chkNs] at h
  | _ :: _, [], h => by simp [chkNs] at h
theorem gNs_run : ∀ {is : List Nat} {vs : List V} {σ : L2.St} {H : Hp} {Q : L2.St → Hp → Prop}, is.length = vs.length → Q ((is.zip vs).foldl (fun s p => s.set p.1 (some p.2)) σ) H → gNs is vs σ H Q
  | [], [], _, _, _, _, h => ⟨rfl, h⟩
  | i :: is, v :: vs, σ, H, Q, hl, h => ⟨v, vs, rfl, gNs_run (by simpa using hl) h⟩
  | [], _ :: _, _, _, _, hl, _ => by simp at hl
  | _ :: _, [], _, _, _, hl, _ => by simp at hl
theorem pg_imp {e : Expr} {t t' : TG} (h : PG X e t) (f : ∀ x σ H Q, t' x σ H Q → t x σ H Q) : PG X e t' := ⟨fun pins s σ H x u Q I r q => h.run pins s σ H x u Q I r (f _ _ _ _ q)⟩
theorem sG (c : CxOk T X S) {g : CG} {tg : Expr} (h : chkG S g tg = true) : PG X tg (LG X.K g) := by
  cases g with
  | name i =>
    simp only [chkG] at h
    split at h
    · refine pg_imp (tgt_of c h) fun x σ H Q q => ?_
      obtain ⟨F, G, ρ, d, hK, r, p, q⟩ := q
      exact q _ (by rw [List.length_set]) (fun j hj => List.getElem?_set_ne (fun e => hj (by simp [CG.slots, e]))) (r.put_fz p)
    · cases h
  | tup is =>
    simp only [chkG] at h
    split at h
    · obtain ⟨q1, q2, q3⟩ := tgts_of c h
      refine pg_imp (pg_tup c.good.calm q1 q2 q3) fun x σ H Q q => ?_
      obtain ⟨F, G, ρ, d, hK, r, p, q⟩ := q
      simp only [asgG] at q
      split at q
      · obtain ⟨ρ', e, q⟩ := q
        cases p with
        | tup h1 h2 =>
          have hl := asgN_len e
          refine ⟨_, _, rfl, hK ▸ same_sqT r.sub h1, by rw [h2.length]; exact hl.symm, gNs_run (by rw [h2.length]; exact hl) ?_⟩
          refine q _ (fold_len _ _) (fun j hj => fold_off fun p hp z => ?_) (asgN_rl r h2 e)
          exact hj (z ▸ (List.of_mem_zip (show (p.1, p.2) ∈ is.zip _ from hp)).1)
      · exact q.elim
    · cases h

/-! ### what is walked -/
structure WkD (K : PySem.W.Frag) (J : It) (ds : List D) (G : Hp) : Prop where
  goes : ∀ i H, i < ds.length → Same G H → J.go i H
  stops : ∀ H, Same G H → J.stop ds.length H
  yields : ∀ i H x H', i < ds.length → Same G H → J.yld i H x H' → ∃ d, ds[i]? = some d ∧ ((H' = H ∧ Rp K G x d) ∨ ∃ T vs es, x = .ref T ∧ H T = none ∧ H' = upd H T (.tup vs) ∧ d = .tup es ∧ RpA K G vs es)
def LI (T : Tb) (K : PySem.W.Frag) (c : CI) : TI := fun σ H R => ∃ F G ρ, F.K = K ∧ Rl F G H σ ρ ∧ evI T c ρ fun ds ρ' => ∀ J G' H', Same G G' → Rl F G' H' σ ρ' → WkD K J ds G' → R J H'
theorem wk_list {K : PySem.W.Frag} {a : Addr} {vs : List V} {ds : List D} {G : Hp} (h : G a = some (.lst vs)) (q : RpA K G vs ds) : WkD K (Itl K a) ds G := by
  have w := walk_list (K := K) (a := a) (xs := vs)
  have e := q.length
  refine ⟨fun i H hi s => w.goes i H (by omega) (SqL.of (s _ _ h)), fun H s => by rw [← e]; exact w.stops H (SqL.of (s _ _ h)), fun i H x H' hi s y => ?_⟩
  obtain ⟨e1, e2⟩ := w.yields i H x H' (by omega) (SqL.of (s _ _ h)) y
  obtain ⟨d, h1, h2⟩ := q.get' e2
  exact ⟨d, h1, .inl ⟨e1, h2⟩⟩
theorem wk_tup {K : PySem.W.Frag} {a : Addr} {vs : List V} {ds : List D} {G : Hp} (h : SqT K G a vs) (q : RpA K G vs ds) : WkD K (Itt K a) ds G := by
  have w := walk_tup (K := K) (a := a) (xs := vs)
  have e := q.length
  refine ⟨fun i H hi s => w.goes i H (by omega) (same_sqT s h), fun H s => by rw [← e]; exact w.stops H (same_sqT s h), fun i H x H' hi s y => ?_⟩
  obtain ⟨e1, e2⟩ := w.yields i H x H' (by omega) (same_sqT s h) y
  obtain ⟨d, h1, h2⟩ := q.get' e2
  exact ⟨d, h1, .inl ⟨e1, h2⟩⟩
theorem rangeD_len (lo hi : Int) : (rangeD lo hi).length = (hi - lo).toNat := by
  unfold rangeD
  rw [List.length_map, List.length_range]
theorem wk_range {K : PySem.W.Frag} {lo hi : Int} {G : Hp} : WkD K (Itr lo (hi - lo).toNat) (rangeD lo hi) G := by
  have w := walk_range (lo := lo) (n := (hi - lo).toNat)
  refine ⟨fun i H h s => w.goes i H (by rw [rangeD_len] at h; exact h) trivial, fun H s => by rw [rangeD_len]; exact w.stops H trivial, fun i H x H' h s y => ?_⟩
  rw [rangeD_len] at h
  obtain ⟨e1, e2⟩ := w.yields i H x H' h trivial y
  refine ⟨.int (lo + (i : Nat)), ?_, .inl ⟨e1, by rw [e2]; exact .int _⟩⟩
  unfold rangeD
  rw [List.getElem?_map, List.getElem?_range h]
  rfl
theorem wk_enum {K : PySem.W.Frag} {a : Addr} {vs : List V} {ds : List D} {G : Hp} (h : G a = some (.lst vs)) (q : RpA K G vs ds) : WkD K (Ite K a) (enumD ds) G := by
  have w := walk_enum (K := K) (a := a) (xs := vs)
  have e := q.length
  have el : (enumD ds).length = ds.length := by unfold enumD; simp
  refine ⟨fun i H hi s => w.goes i H (by omega) (SqL.of (s _ _ h)), fun H s => by rw [el, ← e]; exact w.stops H (SqL.of (s _ _ h)), fun i H x H' hi s y => ?_⟩
  obtain ⟨T, x1, x2, e1, e2, e3, e4, e5⟩ := w.yields i H x H' (by omega) (SqL.of (s _ _ h)) y
  obtain ⟨d, h1, h2⟩ := q.get' e5
  refine ⟨.tup [.int (i : Nat), d], ?_, .inr ⟨T, [x1, x2], [.int (i : Nat), d], e1, e2, e3, rfl, ?_⟩⟩
  · unfold enumD
    rw [List.getElem?_map, List.getElem?_zipIdx, h1]
    simp
  · cases e4
    exact .cons (.int _) (.cons h2 .nil)
/-- a list or a tuple, walked -/
def iSeq (K : PySem.W.Frag) (tl : TE) : TI := fun σ H R => tl σ H fun x H1 => ∃ a xs, x = .ref a ∧ ((SqL K H1 a xs ∧ R (Itl K a) H1) ∨ (SqT K H1 a xs ∧ R (Itt K a) H1))
theorem pi_seq {tg l : Expr} {tl : TE} (hl : PE X l tl) : PI X tg l (iSeq X.K tl) := by
  constructor
  intro pins s σ H R I h
  refine thn (hl.run pins s σ H _ I h) ?_
  rintro v s1 ⟨x, H1, I1, r1, a, xs, e, q⟩
  subst e
  cases r1
  have fp : ∀ b ∈ [s1.heap.objs.size], FpOk X pins H1 b := fun b hb => by
    rw [List.mem_singleton] at hb
    subst hb
    exact I1.fpOk (Nat.le_refl _) I1.fresh
  rcases q with ⟨q1, q2⟩ | ⟨q1, q2⟩
  · obtain ⟨its, rv, p, hz⟩ := I1.list q1
    refine wpAny_pyIter_list p.isList ⟨_, [_], _, _, H1, rfl, I1.kept (t' := s1.toks) ?_, turn_list a _, ?_, fp, q2⟩
    · intro b o e
      exact Heap.get?_push_of_some _ e
    · exact ⟨_, Heap.get?_push_size _ rfl, rfl, rfl⟩
  · obtain ⟨its, rv, p, hz⟩ := I1.tuple q1
    refine wpAny_pyIter_tuple (show s1.heap.IsTuple a _ from p) ⟨_, [_], _, _, H1, rfl, I1.kept (t' := s1.toks) ?_, turn_tuple a _, ?_, fp, q2⟩
    · intro b o e
      exact Heap.get?_push_of_some _ e
    · exact ⟨_, Heap.get?_push_size _ rfl, rfl, rfl⟩
end
end DI

set_option Elab.async false
set_option linter.all false
set_option autoImplicit false
set_option maxRecDepth 100000
set_option maxHeartbeats 1000000
/-! DI3d: what is asked over data gives what the hand layer's readings ask: expressions. -/
namespace DI
open PySem PySem.Spec PyProof.Rows L2
section
variable {T : Tb} {K : PySem.W.Frag} {σ : L2.St} {H : Hp}
theorem i_var {i : Nat} {Q : VK} (h : LE T K (.var i) σ H Q) : tVar i σ H Q := by
  obtain ⟨F, G, ρ, hK, r, ev⟩ := h
  subst hK
  simp only [evE] at ev
  split at ev
  · rename_i d e
    obtain ⟨v, h1, h2⟩ := r.fz i d e
    exact ⟨v, h1, ev v G H (Same.refl G) r h2⟩
  · rename_i d e
    obtain ⟨a, h1, h2⟩ := r.ow i d e
    exact ⟨.ref a, h1, ev _ G H (Same.refl G) r ⟨⟨d, e⟩, h1⟩⟩
  · exact ev.elim
theorem i_con {d : D} {v : V} {Q : VK} (hv : ∀ G, Rp K G v d) (h : LE T K (.con d) σ H Q) : tC v σ H Q := by
  obtain ⟨F, G, ρ, hK, r, ev⟩ := h
  subst hK
  exact ev v G H (Same.refl G) r (hv G)
theorem i_glo {k : Nat} {v : V} {Q : VK} (hv : ∀ G, Rp K G v (T.gl k)) (h : LE T K (.glo k) σ H Q) : tC v σ H Q := by
  obtain ⟨F, G, ρ, hK, r, ev⟩ := h
  subst hK
  exact ev v G H (Same.refl G) r (hv G)
theorem i_op2 (tm : T.Mono) {o : O2} {a b : CE} {Q : VK} (h : LE T K (.op2 o a b) σ H Q) : tOp (rd2 T.W o K) (LE T K a) (LE T K b) σ H Q := by
  obtain ⟨F, G, ρ, hK, r, ev⟩ := h
  subst hK
  simp only [evE] at ev
  refine ⟨F, G, ρ, rfl, r, evE_mono tm a (fun r1 ρ1 ev v1 G1 H1 g1 rl1 rr1 => ?_) ev⟩
  obtain ⟨G1', g1', rl1', so1⟩ := opnd rl1 rr1
  refine ⟨F, G1', ρ1, rfl, rl1', evE_mono tm b (fun r2 ρ2 ev v2 G2 H2 g2 rl2 rr2 => ?_) ev⟩
  obtain ⟨G2', g2', rl2', so2⟩ := opnd rl2 rr2
  obtain ⟨d1, ev, ro1⟩ := (so1.mono (g2.trans g2')).rd rl2' ev
  obtain ⟨d2, ev, ro2⟩ := so2.rd rl2' ev
  exact lift2 rl2' ro1 ro2 ev fun z v G3 H3 p w rr => p v G3 H3 (g1.trans (g1'.trans (g2.trans (g2'.trans w.g)))) (rl2'.grow w) rr
theorem i_cmpT (tm : T.Mono) {o : O2} {a b : CE} {Q : Bool → Hp → Prop} (h : LT T K (.cmp o a b) σ H Q) : tTest (tOp (rd2 T.W o K) (LE T K a) (LE T K b)) σ H Q := by
  obtain ⟨F, G, ρ, hK, r, ev⟩ := h
  subst hK
  simp only [evT] at ev
  refine ⟨F, G, ρ, rfl, r, evE_mono tm a (fun r1 ρ1 ev v1 G1 H1 g1 rl1 rr1 => ?_) ev⟩
  obtain ⟨G1', g1', rl1', so1⟩ := opnd rl1 rr1
  refine ⟨F, G1', ρ1, rfl, rl1', evE_mono tm b (fun r2 ρ2 ev v2 G2 H2 g2 rl2 rr2 => ?_) ev⟩
  obtain ⟨G2', g2', rl2', so2⟩ := opnd rl2 rr2
  obtain ⟨d1, ev, ro1⟩ := (so1.mono (g2.trans g2')).rd rl2' ev
  obtain ⟨d2, ev, ro2⟩ := so2.rd rl2' ev
  refine lift2 rl2' ro1 ro2 ev fun z v G3 H3 p w rr => ?_
  split at p
  · cases rr
    exact ⟨_, rfl, p G3 H3 (g1.trans (g1'.trans (g2.trans (g2'.trans w.g)))) (rl2'.grow w)⟩
  · exact p.elim
theorem i_neg (tm : T.Mono) {a : CE} {Q : VK} (h : LE T K (.op1 .neg a) σ H Q) : tUn (rU fun i => .int (-i)) (LE T K a) σ H Q := by
  obtain ⟨F, G, ρ, hK, r, ev⟩ := h
  subst hK
  simp only [evE] at ev
  refine ⟨F, G, ρ, rfl, r, evE_mono tm a (fun r1 ρ1 ev v1 G1 H1 g1 rl1 rr1 => ?_) ev⟩
  obtain ⟨G1', g1', rl1', so1⟩ := opnd rl1 rr1
  obtain ⟨d1, ev, ro1⟩ := so1.rd rl1' ev
  simp only [sem1] at ev
  split at ev
  · exact ⟨_, ro1.int, ev _ G1' H1 (g1.trans g1') rl1' (.int _)⟩
  · exact ev.elim
theorem i_and (tm : T.Mono) {a b : CE} {Q : VK} (h : LE T K (.and a b) σ H Q) : tAndV (LE T K a) (LE T K b) σ H Q := by
  obtain ⟨F, G, ρ, hK, r, ev⟩ := h
  subst hK
  simp only [evE] at ev
  refine ⟨F, G, ρ, rfl, r, evE_mono tm a (fun r1 ρ1 ev v1 G1 H1 g1 rl1 rr1 => ?_) ev⟩
  split at ev
  · rename_i k
    cases rr1
    refine ⟨k, rfl, ?_⟩
    cases k with
    | true => exact ⟨F, G1, ρ1, rfl, rl1, evE_mono tm b (fun r2 ρ2 ev v2 G2 H2 g2 => ev v2 G2 H2 (g1.trans g2)) ev⟩
    | false => exact ev _ G1 H1 g1 rl1 (.bl _)
  · exact ev.elim
theorem i_or (tm : T.Mono) {a b : CE} {Q : VK} (h : LE T K (.or a b) σ H Q) : tOrV (LE T K a) (LE T K b) σ H Q := by
  obtain ⟨F, G, ρ, hK, r, ev⟩ := h
  subst hK
  simp only [evE] at ev
  refine ⟨F, G, ρ, rfl, r, evE_mono tm a (fun r1 ρ1 ev v1 G1 H1 g1 rl1 rr1 => ?_) ev⟩
  split at ev
  · rename_i k
    cases rr1
    refine ⟨k, rfl, ?_⟩
    cases k with
    | true => exact ev _ G1 H1 g1 rl1 (.bl _)
    | false => exact ⟨F, G1, ρ1, rfl, rl1, evE_mono tm b (fun r2 ρ2 ev v2 G2 H2 g2 => ev v2 G2 H2 (g1.trans g2)) ev⟩
  · exact ev.elim
theorem i_not (tm : T.Mono) {a : CE} {Q : VK} (h : LE T K (.not a) σ H Q) : tNotV (LE T K a) σ H Q := by
  obtain ⟨F, G, ρ, hK, r, ev⟩ := h
  subst hK
  simp only [evE] at ev
  refine ⟨F, G, ρ, rfl, r, evE_mono tm a (fun r1 ρ1 ev v1 G1 H1 g1 rl1 rr1 => ?_) ev⟩
  split at ev
  · rename_i k
    cases rr1
    exact ⟨k, rfl, ev _ G1 H1 g1 rl1 (.bl _)⟩
  · exact ev.elim
theorem i_ifx (tm : T.Mono) {c : CT} {a b : CE} {Q : VK} (h : LE T K (.ifx c a b) σ H Q) : tIf (LT T K c) (LE T K a) (LE T K b) σ H Q := by
  obtain ⟨F, G, ρ, hK, r, ev⟩ := h
  subst hK
  simp only [evE] at ev
  refine ⟨F, G, ρ, rfl, r, evT_mono tm c (fun k ρ1 ev G1 H1 g1 rl1 => ?_) ev⟩
  cases k with
  | true => exact ⟨F, G1, ρ1, rfl, rl1, evE_mono tm a (fun r2 ρ2 ev v2 G2 H2 g2 => ev v2 G2 H2 (g1.trans g2)) ev⟩
  | false => exact ⟨F, G1, ρ1, rfl, rl1, evE_mono tm b (fun r2 ρ2 ev v2 G2 H2 g2 => ev v2 G2 H2 (g1.trans g2)) ev⟩
theorem i_nil {Q : List V → Hp → Prop} (h : LA T K .nil σ H Q) : tNil σ H Q := by
  obtain ⟨F, G, ρ, hK, r, ev⟩ := h
  exact ev [] G H (Same.refl G) r trivial
theorem i_cons (tm : T.Mono) {c : CE} {cs : CA} {Q : List V → Hp → Prop} (h : LA T K (.cons c cs) σ H Q) : tCons (LE T K c) (LA T K cs) σ H Q := by
  obtain ⟨F, G, ρ, hK, r, ev⟩ := h
  subst hK
  simp only [evA] at ev
  refine ⟨F, G, ρ, rfl, r, evE_mono tm c (fun r1 ρ1 ev v1 G1 H1 g1 rl1 rr1 => ?_) ev⟩
  obtain ⟨G1', g1', rl1', so1⟩ := opnd rl1 rr1
  exact ⟨F, G1', ρ1, rfl, rl1', evA_mono tm cs (fun rs ρ2 ev vs G2 H2 g2 rl2 so2 => ev _ G2 H2 (g1.trans (g1'.trans g2)) rl2 ⟨(so1.mono g2).opd, so2⟩) ev⟩
theorem i_nilK {Q : List V → Hp → Prop} (h : LK T K .nil σ H Q) : tNil σ H Q := by
  obtain ⟨F, G, ρ, hK, r, ev⟩ := h
  exact ev [] G H (Same.refl G) r .nil
theorem i_consK (tm : T.Mono) {c : CE} {cs : CA} {Q : List V → Hp → Prop} (h : LK T K (.cons c cs) σ H Q) : tCons (LE T K c) (LK T K cs) σ H Q := by
  obtain ⟨F, G, ρ, hK, r, ev⟩ := h
  subst hK
  simp only [evK] at ev
  refine ⟨F, G, ρ, rfl, r, evE_mono tm c (fun r1 ρ1 ev v1 G1 H1 g1 rl1 rr1 => ?_) ev⟩
  obtain ⟨G1', d, ρ1', g1', rl1', p, ev⟩ := keepR rl1 rr1 ev
  exact ⟨F, G1', ρ1', rfl, rl1', evK_mono tm cs (fun rs ρ2 ev vs G2 H2 g2 rl2 so2 => ev _ G2 H2 (g1.trans (g1'.trans g2)) rl2 (.cons (p.mono g2) so2)) ev⟩
theorem i_lst (tm : T.Mono) {cs : CA} {Q : VK} (h : LE T K (.lst cs) σ H Q) : tLst (LK T K cs) σ H Q := by
  obtain ⟨F, G, ρ, hK, r, ev⟩ := h
  subst hK
  simp only [evE] at ev
  refine ⟨F, G, ρ, rfl, r, evK_mono tm cs (fun ds ρ1 ev vs G1 H1 g1 rl1 p => ?_) ev⟩
  refine ⟨by rw [p.length]; exact ev.1, fun l hl => ev.2 _ G1 _ g1 (rl1.grow (Gw.new rl1.sub hl)) ⟨l, rfl, rl1.nw hl ⟨vs, upd_same, p⟩⟩⟩
theorem i_tup (tm : T.Mono) {cs : CA} {Q : VK} (h : LE T K (.tup cs) σ H Q) : tTup (LK T K cs) σ H Q := by
  obtain ⟨F, G, ρ, hK, r, ev⟩ := h
  subst hK
  simp only [evE] at ev
  refine ⟨F, G, ρ, rfl, r, evK_mono tm cs (fun ds ρ1 ev vs G1 H1 g1 rl1 p => ?_) ev⟩
  refine ⟨by rw [p.length]; exact ev.1, fun l hl => ?_⟩
  have w := Gw.newF (o := .tup vs) rl1.sub hl
  exact ev.2 _ _ _ (g1.trans w.g) (rl1.grow w) (.tup (SqT.of upd_same) (p.mono w.g))
theorem i_none {Q : Option Int → Hp → Prop} (h : LO T K .none σ H Q) : tNoPart σ H Q := by
  obtain ⟨F, G, ρ, hK, r, ev⟩ := h
  exact ev G H (Same.refl G) r
theorem i_some (tm : T.Mono) {c : CE} {Q : Option Int → Hp → Prop} (h : LO T K (.some c) σ H Q) : tPart (LE T K c) σ H Q := by
  obtain ⟨F, G, ρ, hK, r, ev⟩ := h
  subst hK
  simp only [evO] at ev
  refine ⟨F, G, ρ, rfl, r, evE_mono tm c (fun r1 ρ1 ev v1 G1 H1 g1 rl1 rr1 => ?_) ev⟩
  split at ev
  · cases rr1
    exact ⟨_, rfl, ev G1 H1 g1 rl1⟩
  · exact ev.elim
theorem cut_rel {G : Hp} {vs : List V} {ds : List D} (h : RpA K G vs ds) (l u : Option Int) : RpA K G (cutV vs l u) (cutD ds l u) := by
  unfold cutV cutD
  rw [h.length]
  exact (h.drop _).take _
theorem cut_all {ds : List D} {l u : Option Int} (q : HT.sIx ds.length 0 l = 0 ∧ HT.sIx ds.length ds.length u = ds.length) : cutD ds l u = ds := by
  unfold cutD
  rw [q.1, q.2]
  simp
def rSls (K : PySem.W.Frag) : V → Option Int → Option Int → Hp → VK → Prop := fun x lo hi H Q => rSlL K x lo hi H Q ∨ rSlA K x lo hi H Q ∨ rSlS x lo hi H Q
theorem i_slc (tm : T.Mono) {a : CE} {lo hi : CO} {Q : VK} (h : LE T K (.slc a lo hi) σ H Q) : tSl (rSls K) (LE T K a) (LO T K lo) (LO T K hi) σ H Q := by
  obtain ⟨F, G, ρ, hK, r, ev⟩ := h
  subst hK
  simp only [evE] at ev
  refine ⟨F, G, ρ, rfl, r, evE_mono tm a (fun r1 ρ1 ev v1 G1 H1 g1 rl1 rr1 => ?_) ev⟩
  obtain ⟨G1', g1', rl1', so1⟩ := opnd rl1 rr1
  refine ⟨F, G1', ρ1, rfl, rl1', evO_mono tm lo (fun l ρ2 ev G2 H2 g2 rl2 => ?_) ev⟩
  refine ⟨F, G2, ρ2, rfl, rl2, evO_mono tm hi (fun u ρ3 ev G3 H3 g3 rl3 => ?_) ev⟩
  obtain ⟨d, ev, ro⟩ := (so1.mono (g2.trans g3)).rd rl3 ev
  have gg := g1.trans (g1'.trans (g2.trans g3))
  split at ev
  · obtain ⟨b, vs, rfl, h1, h2⟩ := ro
    exact .inl ⟨b, vs, rfl, SqL.of h1, fun p hp => ev _ G3 _ gg (rl3.grow (Gw.new rl3.sub hp)) ⟨p, rfl, rl3.nw hp ⟨_, upd_same, cut_rel h2 l u⟩⟩⟩
  · obtain ⟨b, vs, rfl, h1, h2, h3⟩ := ro.tup rl3.sub
    refine .inr (.inl ⟨b, vs, rfl, h1, ?_, ?_⟩)
    · intro q
      refine ev _ G3 H3 gg rl3 ?_
      have e : cutD _ l u = _ := cut_all (by rw [h2.length] at q; exact q)
      rw [e]
      exact .tup h3 h2
    · intro q p hp
      have w := Gw.newF (o := .tup (cutV vs l u)) rl3.sub hp
      exact ev _ _ _ (gg.trans w.g) (rl3.grow w) (.tup (SqT.of upd_same) ((cut_rel h2 l u).mono w.g))
  · have ro : Rp F.K G3 v1 (.scr _ _) := ro
    cases ro with
    | scr h1 => exact .inl ⟨_, _, rfl, same_sqL rl3.sub h1, fun p hp => ev _ G3 _ gg (rl3.grow (Gw.new rl3.sub hp)) ⟨p, rfl, rl3.nw hp ⟨_, upd_same, cut_rel (RpA.ints _) l u⟩⟩⟩
  · exact .inr (.inr ⟨_, ro.str, ev.1, ev.2 _ G3 H3 gg rl3 (.str _)⟩)
  · exact ev.elim
def rN (m : N1) : V → List V → Hp → VK → Prop := match m with
  | .split => fun x xs H Q => ∃ a b, x = .str a ∧ xs = [.str b] ∧ (b.length == 0) = false ∧ a.length + 2 ≤ sizeLine ∧ rNewStrs (Txt.split a b) H Q
theorem i_meth (tm : T.Mono) {m : N1} {a e : CE} {Q : VK} (h : LE T K (.meth m a e) σ H Q) : tM1 (rN m) (LE T K a) (LE T K e) σ H Q := by
  obtain ⟨F, G, ρ, hK, r, ev⟩ := h
  subst hK
  simp only [evE] at ev
  refine ⟨F, G, ρ, rfl, r, evE_mono tm a (fun r1 ρ1 ev v1 G1 H1 g1 rl1 rr1 => ?_) ev⟩
  split at ev
  · rename_i x
    cases rr1
    refine ⟨⟨x, rfl⟩, F, G1, ρ1, rfl, rl1, evE_mono tm e (fun r2 ρ2 ev v2 G2 H2 g2 rl2 rr2 => ?_) ev⟩
    obtain ⟨G2', g2', rl2', so2⟩ := opnd rl2 rr2
    obtain ⟨d, ev, ro⟩ := so2.rd rl2' ev
    have gg := g1.trans (g2.trans g2')
    cases m with
    | split =>
      simp only [semN] at ev
      split at ev
      · rename_i a0 b0 e1 e2
        cases e1
        cases e2
        refine ⟨_, _, rfl, by rw [ro.str], ev.1, ev.2.1, fun p hp => ev.2.2 _ G2' _ gg (rl2'.grow (Gw.new rl2'.sub hp)) ⟨p, rfl, rl2'.nw hp ⟨_, upd_same, RpA.strs _⟩⟩⟩
      · exact ev.elim
  · exact ev.elim
theorem i_sset (tm : T.Mono) {w : World} {e : CE} {Q : VK} (h : LE T K (.sset e) σ H Q) : tCB (rSortedSet w) (tCons (tCB (rSetLI w K) (tCons (LE T K e) tNil)) tNil) σ H Q := by
  obtain ⟨F, G, ρ, hK, r, ev⟩ := h
  subst hK
  simp only [evE] at ev
  refine ⟨F, G, ρ, rfl, r, evE_mono tm e (fun r1 ρ1 ev v1 G1 H1 g1 rl1 rr1 => ?_) ev⟩
  obtain ⟨G1', g1', rl1', so1⟩ := opnd rl1 rr1
  obtain ⟨d, ev, ro⟩ := so1.rd rl1' ev
  have gg := g1.trans g1'
  split at ev
  · obtain ⟨ns, rfl, h64, ev⟩ := ev
    obtain ⟨b, vs, rfl, h1, h2⟩ := ro
    have e2 := h2.int_of
    subst e2
    refine ⟨b, ns, rfl, SqL.of h1, h64, fun p c hp hc => ?_⟩
    have w1 := Gw.new (o := SetO w p (fun j => decide (j ∈ ns)) c) rl1'.sub hp
    have rl2 := rl1'.grow w1
    refine ⟨p, _, c, rfl, upd_same, by omega, fun ys q hs hm hl hq => ?_⟩
    refine ev ys hs (fun k => by rw [hm k, decide_eq_true_eq]) _ G1' _ gg (rl2.grow (Gw.new rl2.sub hq)) ⟨q, rfl, rl2.nw hq ⟨_, upd_same, RpA.ints _⟩⟩
  · exact ev.elim
theorem i_dn1 (tm : T.Mono) {k v : CE} {Q : VK} (h : LE T K (.dn1 k v) σ H Q) : tDn1 T.W K (LE T K k) (LE T K v) σ H Q := by
  obtain ⟨F, G, ρ, hK, r, ev⟩ := h
  subst hK
  simp only [evE] at ev
  intro p hp
  have w0 := Gw.new (o := .dK []) r.sub hp
  have r0 := r.grow w0
  have n0 : Nw F G (upd H p (.dK [])) σ ρ p (.dct []) := r.nw hp ⟨[], upd_same, .nil⟩
  have ra := r0.aside n0 upd_same
  refine ⟨F.aside p (.dK []), G, ρ, rfl, ra, evE_mono tm k (fun r1 ρ1 ev v1 G1 H1 g1 rl1 rr1 => ?_) ev⟩
  obtain ⟨G2, d1, ρ2, g2, rl2, p2, ev⟩ := keepR rl1 rr1 ev
  refine ⟨F.aside p (.dK []), G2, ρ2, rfl, rl2, evE_mono tm v (fun r3 ρ3 ev v3 G3 H3 g3 rl3 rr3 => ?_) ev⟩
  obtain ⟨G4, d4, ρ4, g4, rl4, p4, ev⟩ := keepR rl3 rr3 ev
  have hH3 : H3 p = some (.dK []) := (rl4.fr p (.inl rfl)).2.1.trans upd_same
  refine ⟨hH3, ?_⟩
  split at ev
  · obtain ⟨n, h1, h2, ev⟩ := ev
    have p2' : Rp F.K G4 v1 (.tup _) := p2.mono (g3.trans g4)
    have gg := g1.trans (g2.trans (g3.trans g4))
    obtain ⟨rl5, n5⟩ := r0.unaside n0 upd_same gg rl4
    cases p2' with
    | tup q1 q2 =>
      refine ⟨_, _, n, rfl, (Rp.tup q1 q2).mono rl4.sub, h1, h2, fun u ru => ?_⟩
      obtain ⟨rl6, n6⟩ := rl5.mutN n5 (o := DnO T.W p [(n, _, u)]) (d' := .dcn T.W [(n, d4)]) ⟨_, upd_same, .cons (Rp.tup q1 q2) h1 h2 ru p4 .nil⟩
      exact ev _ G4 _ gg rl6 ⟨p, rfl, n6⟩
  · exact ev.elim
theorem i_tyc {n : String} {Q : VK} (h : LE T K (.tyc n) σ H Q) : tC (.ty n) σ H Q := by
  obtain ⟨F, G, ρ, hK, r, ev⟩ := h
  subst hK
  exact ev _ G H (Same.refl G) r (.opq _)
theorem i_dk0 {Q : VK} (h : LE T K .dk0 σ H Q) : tDNewK σ H Q := by
  obtain ⟨F, G, ρ, hK, r, ev⟩ := h
  subst hK
  intro p hp
  exact ev _ G _ (Same.refl G) (r.grow (Gw.new r.sub hp)) ⟨p, rfl, r.nw hp ⟨[], upd_same, .nil⟩⟩
theorem i_dk1 (tm : T.Mono) {x : Str} {v : CE} {Q : VK} (h : LE T K (.dk1 x v) σ H Q) : tDisp [(tC (.str x), LE T K v)] σ H Q := by
  obtain ⟨F, G, ρ, hK, r, ev⟩ := h
  subst hK
  simp only [evE] at ev
  intro p hp
  have w0 := Gw.new (o := .dK []) r.sub hp
  have r0 := r.grow w0
  have n0 : Nw F G (upd H p (.dK [])) σ ρ p (.dct []) := r.nw hp ⟨[], upd_same, .nil⟩
  have ra := r0.aside n0 upd_same
  refine ⟨F.aside p (.dK []), G, ρ, rfl, ra, evE_mono tm v (fun r3 ρ3 ev v3 G3 H3 g3 rl3 rr3 => ?_) ev⟩
  obtain ⟨G4, d4, ρ4, g4, rl4, p4, ev⟩ := keepR rl3 rr3 ev
  have hH3 : H3 p = some (.dK []) := (rl4.fr p (.inl rfl)).2.1.trans upd_same
  refine ⟨hH3, [(.inr x, v3)], rfl, by simp, ?_⟩
  have gg := g3.trans g4
  obtain ⟨rl5, n5⟩ := r0.unaside n0 upd_same gg rl4
  obtain ⟨rl6, n6⟩ := rl5.mutN n5 (o := .dK [(.inr x, v3)]) (d' := .dct [(.str x, d4)]) ⟨_, upd_same, RpK.cons (k := .inr x) p4 .nil⟩
  exact ev _ G4 _ gg rl6 ⟨p, rfl, n6⟩
theorem i_upper (tm : T.Mono) {a : CE} {Q : VK} (h : LE T K (.upper a) σ H Q) : tM0 (fun x xs H Q => ∃ a, x = .str a ∧ xs = [] ∧ a.length ≤ 5592405 ∧ Q (.str (Txt.upper a)) H) (LE T K a) σ H Q := by
  obtain ⟨F, G, ρ, hK, r, ev⟩ := h
  subst hK
  simp only [evE] at ev
  refine ⟨F, G, ρ, rfl, r, evE_mono tm a (fun r1 ρ1 ev v1 G1 H1 g1 rl1 rr1 => ?_) ev⟩
  obtain ⟨G1', g1', rl1', so1⟩ := opnd rl1 rr1
  obtain ⟨d, ev, ro⟩ := so1.rd rl1' ev
  split at ev
  · exact ⟨⟨_, ro.str⟩, _, ro.str, rfl, ev.1, ev.2 _ G1' _ (g1.trans g1') rl1' (.str _)⟩
  · exact ev.elim
theorem i_cnt (tm : T.Mono) {a e : CE} {Q : VK} (h : LE T K (.cnt a e) σ H Q) : tBM K "list" (rCnt K) (LE T K a) (tCons (LE T K e) tNil) σ H Q := by
  obtain ⟨F, G, ρ, hK, r, ev⟩ := h
  subst hK
  simp only [evE] at ev
  refine ⟨F, G, ρ, rfl, r, evE_mono tm a (fun r1 ρ1 ev v1 G1 H1 g1 rl1 rr1 => ?_) ev⟩
  obtain ⟨ev0, ev⟩ := ev
  obtain ⟨G1', g1', rl1', so1⟩ := opnd rl1 rr1
  obtain ⟨d0, ⟨xs0, rfl⟩, ro0⟩ := so1.rd rl1' ev0
  obtain ⟨p0, ws0, rfl, h0, _⟩ := ro0
  refine ⟨.inl ⟨rfl, ws0, SqL.of h0⟩, ?_⟩
  refine ⟨F, G1', ρ1, rfl, rl1', evE_mono tm e (fun r2 ρ2 ev v2 G2 H2 g2 rl2 rr2 => ?_) ev⟩
  obtain ⟨G2', g2', rl2', so2⟩ := opnd rl2 rr2
  obtain ⟨d1, ev1, ro1⟩ := ((so1.opd).mono (g2.trans g2')).rd rl2' ev
  obtain ⟨d2, ev2, ro2⟩ := so2.rd rl2' ev1
  clear ev ev1
  split at ev2
  · obtain ⟨ss, hss, ev⟩ := ev2
    subst hss
    obtain ⟨p1, ws, e, h1, h2⟩ := ro1
    have e2 := h2.str_of
    subst e2
    exact ⟨p1, ss, _, e, by rw [ro2.str], SqL.of h1, ev _ G2' _ (g1.trans (g1'.trans (g2.trans g2'))) rl2' (.int _)⟩
  · exact ev2.elim
theorem i_bi (tm : T.Mono) {b : B1} {cs : CA} {Q : VK} (h : LE T K (.bi b cs) σ H Q) : tCB (rB b K) (LA T K cs) σ H Q := by
  obtain ⟨F, G, ρ, hK, r, ev⟩ := h
  subst hK
  simp only [evE] at ev
  refine ⟨F, G, ρ, rfl, r, evA_mono tm cs (fun rs ρ1 ev vs G1 H1 g1 rl1 so => ?_) ev⟩
  obtain ⟨ds, ev, ro⟩ := so.rd rl1 ev
  exact liftB rl1 ro ev fun z v G3 H3 p w rr => p v G3 H3 (g1.trans w.g) (rl1.grow w) rr
theorem i_mut1 (tm : T.Mono) {m : M2} {i : Nat} {cs : CA} {Q : VK} (h : LE T K (.mut m i cs) σ H Q) : tBM K "list" (rM m) (tVar i) (LK T K cs) σ H Q := by
  obtain ⟨F, G, ρ, hK, r, ev⟩ := h
  subst hK
  simp only [evE] at ev
  obtain ⟨⟨d, hd⟩, ev⟩ := ev
  obtain ⟨a, h1, h2, h3, ws, h4, h5⟩ := r.ow i _ hd
  refine ⟨.ref a, h1, .inl ⟨rfl, ws, SqL.of h4⟩, ?_⟩
  refine ⟨F, G, ρ, rfl, r, evK_mono tm cs (fun ds ρ1 ev vs G1 H1 g1 rl1 p => ?_) ev⟩
  split at ev
  · rename_i d' e
    exact liftM rl1 e h1 p ev fun d2 z v H' q rl q2 => q v G1 H' g1 rl q2
  · exact ev.elim
theorem i_mut0 (tm : T.Mono) {m : M2} {i : Nat} {Q : VK} (h : LE T K (.mut m i .nil) σ H Q) : tBM0 K "list" (rM m) (tVar i) σ H Q := by
  obtain ⟨F, G, ρ, hK, r, ev⟩ := h
  subst hK
  simp only [evE, evK] at ev
  obtain ⟨⟨d, hd⟩, ev⟩ := ev
  obtain ⟨a, h1, h2, h3, ws, h4, h5⟩ := r.ow i _ hd
  refine ⟨.ref a, h1, .inl ⟨rfl, ws, SqL.of h4⟩, ?_⟩
  split at ev
  · rename_i d' e
    exact liftM r e h1 .nil ev fun d2 z v H' q rl q2 => q v G H' (Same.refl G) rl q2
  · exact ev.elim
/-- arguments that are own lists are taken as not changed any more -/
theorem froz {F : Fr} : ∀ {rs : List R} {vs : List V} {G : Hp} {ρ0 ρ : Sta} {P : List D → Prop}, (∀ (i : Nat) (d : D), ρ0.sl[i]? = some (.ow d) → ρ.sl[i]? = some (.ow d) ∨ ρ.sl[i]? = some (.fz d)) → Rl F G H σ ρ → SOA F G σ vs rs → rdA ρ0 rs P →
    ∃ G' ds, Same G G' ∧ Rl F G' H σ (frzA ρ rs) ∧ P ds ∧ RpA F.K G' vs ds
  | [], [], G, _, _, _, _, r, _, q => ⟨G, [], Same.refl G, r, q, .nil⟩
  | .fz d :: rs, v :: vs, G, ρ0, ρ, P, hm, r, so, q => by
    obtain ⟨G', ds, g, r', p, ra⟩ := froz hm r so.2 q
    exact ⟨G', d :: ds, g, r', p, .cons (Rp.mono g so.1) ra⟩
  | .ow d :: rs, v :: vs, G, ρ0, ρ, P, hm, r, so, q => by
    obtain ⟨G', ds, g, r', p, ra⟩ := froz hm r so.2 q
    exact ⟨G', d :: ds, g, r', p, .cons (Rp.mono g so.1) ra⟩
  | .al i :: rs, v :: vs, G, ρ0, ρ, P, hm, r, so, q => by
    simp only [rdA, rd] at q
    split at q
    · rename_i d e
      have hs : σ[i]? = some (some v) := so.1
      rcases hm i d e with h | h
      · obtain ⟨G1, g1, r1, p1⟩ := r.frzS h hs
        have e2 : ρ.frz i = ρ.put i (.fz d) := by unfold Sta.frz; rw [h]
        have hm2 : ∀ (j : Nat) (d' : D), ρ0.sl[j]? = some (.ow d') → (ρ.put i (.fz d)).sl[j]? = some (.ow d') ∨ (ρ.put i (.fz d)).sl[j]? = some (.fz d') := fun j d' hj => by
          rw [put_sl]
          by_cases ej : j = i
          · subst ej
            rw [hj] at e
            cases e
            rw [List.getElem?_set_self (lt_of h)]
            exact .inr rfl
          · rw [List.getElem?_set_ne (Ne.symm ej)]
            exact hm j d' hj
        obtain ⟨G', ds, g, r', p, ra⟩ := froz hm2 r1 (SOA.mono g1 so.2) q
        refine ⟨G', d :: ds, g1.trans g, ?_, p, .cons (p1.mono g) ra⟩
        show Rl F G' H σ (frzA (ρ.frz i) rs)
        rw [e2]
        exact r'
      · obtain ⟨w, h1, h2⟩ := r.fz i d h
        rw [hs] at h1
        cases h1
        have e2 : ρ.frz i = ρ := by unfold Sta.frz; rw [h]
        obtain ⟨G', ds, g, r', p, ra⟩ := froz hm r so.2 q
        refine ⟨G', d :: ds, g, ?_, p, .cons (h2.mono g) ra⟩
        show Rl F G' H σ (frzA (ρ.frz i) rs)
        rw [e2]
        exact r'
    · exact q.elim
  | [], _ :: _, _, _, _, _, _, _, so, _ => so.elim
  | .fz _ :: _, [], _, _, _, _, _, _, so, _ => so.elim
  | .ow _ :: _, [], _, _, _, _, _, _, so, _ => so.elim
  | .al _ :: _, [], _, _, _, _, _, _, so, _ => so.elim
theorem put_bag2 (ρ : Sta) : ∀ rs : List R, (frzA ρ rs).bag = ρ.bag
  | [] => rfl
  | .fz d :: rs => by rw [frzA]; exact put_bag2 ρ rs; exact nofun
  | .ow d :: rs => by rw [frzA]; exact put_bag2 ρ rs; exact nofun
  | .al i :: rs => by
    rw [frzA, put_bag2]
    unfold Sta.frz
    split <;> rfl
theorem i_call (tm : T.Mono) {k : Nat} {cs : CA} {Q : VK} (h : LE T K (.call k cs) σ H Q) : tCallG (liftSp K (T.fn k)) (LA T K cs) σ H Q := by
  obtain ⟨F, G, ρ, hK, r, ev⟩ := h
  subst hK
  simp only [evE] at ev
  refine ⟨F, G, ρ, rfl, r, evA_mono tm cs (fun rs ρ1 ev vs G1 H1 g1 rl1 so => ?_) ev⟩
  obtain ⟨Gf, ds, gf, rlf, ev, ra⟩ := froz (fun i d h => .inl h) rl1 so ev
  have eb : (frzA ρ1 rs).bag = ρ1.bag := put_bag2 ρ1 rs
  refine ⟨Gf, ρ1.bag, ds, rlf.sub, fun b hb => rlf.bg b (by rw [eb]; exact hb), ra, tm k _ ds _ _ (fun o ev v G' H' ok ro => ?_) ev⟩
  have w : GwB F.K (frzA ρ1 rs).bag Gf H1 G' H' := by rw [eb]; exact ok.gwB rlf.sub
  cases o with
  | fz d =>
    simp only at ev
    split at ev
    · rename_i fl
      obtain ⟨G2, w2, _⟩ := ok.back rlf.sub gf rl1.bg
      exact ev v G2 H' (g1.trans w2.g) (rl1.growB w2) (Rp.flat ro fl)
    · exact ev v G' H' (g1.trans (gf.trans ok.g)) (rlf.growB w) ro
  | ow d =>
    obtain ⟨a, rfl, h1, h2, h3⟩ := ro
    refine ev _ G' H' (g1.trans (gf.trans ok.g)) (rlf.growB w) ⟨a, rfl, rl1.pnone h1, h2, h3, fun i d' hi hs => ?_, fun b hb z => ?_⟩
    · obtain ⟨a', p1, p2, p3, p4⟩ := rlf.ow i d' hi
      rw [p1] at hs
      cases hs
      exact p4.some h1
    · have q := (rlf.bg b hb).some
      rw [z] at q
      exact q h1
  | al i => exact ro.elim
/-! ### tests -/
theorem i_andT (tm : T.Mono) {a b : CT} {Q : Bool → Hp → Prop} (h : LT T K (.and a b) σ H Q) : tAnd (LT T K a) (LT T K b) σ H Q := by
  obtain ⟨F, G, ρ, hK, r, ev⟩ := h
  subst hK
  simp only [evT] at ev
  refine ⟨F, G, ρ, rfl, r, evT_mono tm a (fun k ρ1 ev G1 H1 g1 rl1 => ?_) ev⟩
  cases k with
  | true => exact ⟨F, G1, ρ1, rfl, rl1, evT_mono tm b (fun r2 ρ2 ev G2 H2 g2 => ev G2 H2 (g1.trans g2)) ev⟩
  | false => exact ev G1 H1 g1 rl1
theorem i_orT (tm : T.Mono) {a b : CT} {Q : Bool → Hp → Prop} (h : LT T K (.or a b) σ H Q) : tOr (LT T K a) (LT T K b) σ H Q := by
  obtain ⟨F, G, ρ, hK, r, ev⟩ := h
  subst hK
  simp only [evT] at ev
  refine ⟨F, G, ρ, rfl, r, evT_mono tm a (fun k ρ1 ev G1 H1 g1 rl1 => ?_) ev⟩
  cases k with
  | true => exact ev G1 H1 g1 rl1
  | false => exact ⟨F, G1, ρ1, rfl, rl1, evT_mono tm b (fun r2 ρ2 ev G2 H2 g2 => ev G2 H2 (g1.trans g2)) ev⟩
theorem i_notT (tm : T.Mono) {a : CT} {Q : Bool → Hp → Prop} (h : LT T K (.not a) σ H Q) : tNot (LT T K a) σ H Q := by
  obtain ⟨F, G, ρ, hK, r, ev⟩ := h
  subst hK
  simp only [evT] at ev
  exact ⟨F, G, ρ, rfl, r, evT_mono tm a (fun k ρ1 ev G1 H1 g1 rl1 => ev G1 H1 g1 rl1) ev⟩
theorem tru_of {G : Hp} {v : V} {d : D} {k : Bool} (h : Ro K G H v d) (s : Same G H) (e : d.truth = some k) : TruV K v H k := by
  cases d with
  | scr _ _ => cases e
  | dcn _ _ => cases e
  | non => cases h.non; cases e; rfl
  | bl b => cases h.bl; cases e; rfl
  | int i => cases h.int; cases e; rfl
  | str x =>
    cases h.str
    simp only [D.truth] at e
    split at e
    · cases e; exact ⟨by assumption, rfl⟩
    · cases e
  | lst xs =>
    obtain ⟨a, vs, rfl, h1, h2⟩ := h
    cases e
    refine .inl ⟨vs, SqL.of h1, ?_⟩
    cases h2 <;> rfl
  | tup xs =>
    obtain ⟨a, vs, rfl, h1, h2, _⟩ := h.tup s
    cases e
    refine .inr (.inl ⟨vs, h1, ?_⟩)
    cases h2 <;> rfl
  | dct xs => cases e
  | opq v => cases e
theorem i_val (tm : T.Mono) {c : CE} {Q : Bool → Hp → Prop} (h : LT T K (.val c) σ H Q) : LE T K c σ H fun x H' => ∃ k, TruV K x H' k ∧ Q k H' := by
  obtain ⟨F, G, ρ, hK, r, ev⟩ := h
  subst hK
  simp only [evT] at ev
  refine ⟨F, G, ρ, rfl, r, evE_mono tm c (fun r1 ρ1 ev v1 G1 H1 g1 rl1 rr1 => ?_) ev⟩
  obtain ⟨G1', g1', rl1', so1⟩ := opnd rl1 rr1
  obtain ⟨d, ⟨k, e, ev⟩, ro⟩ := so1.rd rl1' ev
  exact ⟨k, tru_of ro rl1'.sub e, ev G1' H1 (g1.trans g1') rl1'⟩
/-! ### what is walked -/
theorem i_seq (tm : T.Mono) {c : CE} {W : It → Hp → Prop} (h : LI T K (.seq c) σ H W) : iSeq K (LE T K c) σ H W := by
  obtain ⟨F, G, ρ, hK, r, ev⟩ := h
  subst hK
  simp only [evI] at ev
  refine ⟨F, G, ρ, rfl, r, evE_mono tm c (fun r1 ρ1 ev v1 G1 H1 g1 rl1 rr1 => ?_) ev⟩
  obtain ⟨G1', d, ρ1', g1', rl1', p, ev⟩ := keepR rl1 rr1 ev
  split at ev
  · cases p with
    | lst h1 h2 => exact ⟨_, _, rfl, .inl ⟨SqL.of (rl1'.sub _ _ h1), ev _ G1' H1 (g1.trans g1') rl1' (wk_list h1 h2)⟩⟩
  · cases p with
    | tup h1 h2 => exact ⟨_, _, rfl, .inr ⟨same_sqT rl1'.sub h1, ev _ G1' H1 (g1.trans g1') rl1' (wk_tup h1 h2)⟩⟩
  · exact ev.elim
theorem soa_fz1 {F : Fr} {G : Hp} {vs : List V} {j : Int} (h : SOA F G σ vs [.fz (.int j)]) : vs = [.int j] := by
  match vs, h with
  | [v], h => obtain ⟨h, _⟩ := h; cases h; rfl
theorem soa_fz2 {F : Fr} {G : Hp} {vs : List V} {i j : Int} (h : SOA F G σ vs [.fz (.int i), .fz (.int j)]) : vs = [.int i, .int j] := by
  match vs, h with
  | [v, w], h => obtain ⟨h, h2, _⟩ := h; cases h; cases h2; rfl
theorem evA_one {c : CE} {ρ : Sta} {P : List R → Sta → Prop} (h : evA T (.cons c .nil) ρ P) : evE T c ρ fun r ρ' => P [opd r] ρ' := by
  simp only [evA] at h
  exact h
theorem i_rng1 (tm : T.Mono) {c : CE} {W : It → Hp → Prop} (h : LI T K (.range (.cons c .nil)) σ H W) : iRng1 (LA T K (.cons c .nil)) σ H W := by
  obtain ⟨F, G, ρ, hK, r, ev⟩ := h
  subst hK
  simp only [evI, evA] at ev
  refine ⟨F, G, ρ, rfl, r, ?_⟩
  simp only [evA]
  refine evE_mono tm c (fun r1 ρ1 ev vs G1 H1 g1 rl1 so => ?_) ev
  split at ev
  · rename_i j e
    cases soa_fz1 (show SOA F G1 σ vs [.fz (.int j)] from by rw [← e]; exact so)
    have wk := wk_range (K := F.K) (lo := 0) (hi := j) (G := G1)
    rw [Int.sub_zero] at wk
    exact ⟨j, rfl, ev.1, ev.2.1, ev.2.2 _ G1 H1 g1 rl1 wk⟩
  · rename_i e; simp at e
  · exact ev.elim
theorem i_rng2 (tm : T.Mono) {c c2 : CE} {W : It → Hp → Prop} (h : LI T K (.range (.cons c (.cons c2 .nil))) σ H W) : iRng2 (LA T K (.cons c (.cons c2 .nil))) σ H W := by
  obtain ⟨F, G, ρ, hK, r, ev⟩ := h
  subst hK
  simp only [evI, evA] at ev
  refine ⟨F, G, ρ, rfl, r, ?_⟩
  simp only [evA]
  refine evE_mono tm c (fun r1 ρ1 ev => evE_mono tm c2 (fun r2 ρ2 ev vs G1 H1 g1 rl1 so => ?_) ev) ev
  split at ev
  · rename_i e; simp at e
  · rename_i i j e
    cases soa_fz2 (show SOA F G1 σ vs [.fz (.int i), .fz (.int j)] from by rw [← e]; exact so)
    exact ⟨i, j, rfl, ev.1, ev.2 _ G1 H1 g1 rl1 wk_range⟩
  · exact ev.elim
theorem i_enum (tm : T.Mono) {c : CE} {W : It → Hp → Prop} (h : LI T K (.enum c) σ H W) : iEnum K (LK T K (.cons c .nil)) σ H W := by
  obtain ⟨F, G, ρ, hK, r, ev⟩ := h
  subst hK
  simp only [evI] at ev
  refine ⟨F, G, ρ, rfl, r, ?_⟩
  simp only [evK]
  refine evE_mono tm c (fun r1 ρ1 ev => keep_mono (fun d ρ2 ev vs G1 H1 g1 rl1 p => ?_) ev) ev
  split at ev
  · cases p with
    | cons p1 p2 =>
      cases p2
      cases p1 with
      | lst h1 h2 => exact ⟨_, _, rfl, SqL.of (rl1.sub _ _ h1), ev _ G1 H1 g1 rl1 (wk_enum h1 h2)⟩
  · exact ev.elim
end
end DI

set_option Elab.async false
set_option linter.all false
set_option autoImplicit false
set_option maxRecDepth 100000
set_option maxHeartbeats 1000000
/-! DI3e: comprehensions; expressions are sound. -/
namespace DI
open PySem PySem.Spec PyProof.Rows L2
section
variable {T : Tb} {K : PySem.W.Frag} {σ : L2.St} {H : Hp}
theorem gIn_of {g : CG} {own : List Nat} (h : gIn g own = true) : ∀ j, j ∉ own → j ∉ g.slots := by
  intro j hj hs
  cases g with
  | name i =>
    simp only [CG.slots, List.mem_singleton] at hs
    subst hs
    simp only [gIn, List.contains_eq_mem, decide_eq_true_eq] at h
    exact hj h
  | tup is =>
    simp only [gIn, List.all_eq_true, List.contains_eq_mem, decide_eq_true_eq] at h
    exact hj (h j hs)
/-- an item has come -/
theorem came {F : Fr} {G : Hp} {H' : Hp} {ρ : Sta} {x : V} {d : D} {p : Addr → Prop} (r : Rl F G H σ ρ) (h : (H' = H ∧ Rp F.K G x d) ∨ ∃ T vs es, x = .ref T ∧ H T = none ∧ H' = upd H T (.tup vs) ∧ d = .tup es ∧ RpA F.K G vs es) :
    ∃ G', Gw G H G' H' ∧ Rp F.K G' x d := by
  rcases h with ⟨e, q⟩ | ⟨t, vs, es, e1, e2, e3, e4, q⟩
  · subst e
    exact ⟨G, Gw.refl r.sub, q⟩
  · subst e1 e3 e4
    have w := Gw.newF (o := .tup vs) r.sub e2
    exact ⟨_, w, .tup (SqT.of upd_same) (q.mono w.g)⟩
/-- what a comprehension asks behind its iterable -/
def lcR (g : TG) (tt : TT) (te : TE) (vs : List Nat) (σ : L2.St) (Q : VK) (J : It) (H1 : Hp) : Prop := ∀ D, H1 D = none → ∃ W : Nat → Nat → Hp → Prop, (∃ m, W 0 m (upd H1 D (.lst []))) ∧ ∀ i m H, W i m H →
  (J.stop i H ∧ Q (.ref D) H) ∨ (J.go i H ∧ ∃ Nx : Hp → Prop, (∀ H', Nx H' → ∃ m', m' < m ∧ W (i + 1) m' H') ∧ ∀ x H', J.yld i H x H' → g x (wipe σ vs) H' fun σ2 H2 => wipe σ2 vs = wipe σ vs ∧ tt σ2 H2 fun b H3 =>
    if b = true then te σ2 H3 fun y H4 => ∃ acc, H4 D = some (.lst acc) ∧ acc.length < sizeLine ∧ Nx (upd H4 D (.lst (acc ++ [y]))) else Nx H3)
theorem comp_core (tm : T.Mono) {own : List Nat} {g : CG} {c : CC} {e : CE} {Q : VK} {F : Fr} {G G1 H1 : Hp} {ρ1 : Sta} {J : It} {ds : List D} (hg : gIn g own = true) (g1 : Same G G1) (rl1 : Rl F G1 H1 σ ρ1) (wk : WkD F.K J ds G1)
    (ev : compD (fun d ρ2 k => asgG g d ρ2 fun ρ3 => evC T c ρ3 fun b ρ4 => if b = true then evE T e ρ4 fun r ρ5 => keep r ρ5 fun x ρ6 => k (some x) (wipes ρ6 own) else k none (wipes ρ4 own)) ds [] (wipes ρ1 own)
      fun acc ρ7 => ∀ v G' H', Same G G' → Rl F G' H' σ (backs ρ1 ρ7 own) → RR F G' H' σ (backs ρ1 ρ7 own) v (.ow (.lst acc)) → Q v H') :
    lcR (LG F.K g) (LC T F.K c) (LE T F.K e) own σ Q J H1 := by
  intro Z hZ
  have rw1 : Rl F G1 H1 (wipe σ own) (wipes ρ1 own) := rl1.wipe
  have rD := rw1.grow (Gw.new rw1.sub hZ (o := .lst []))
  have nD : Nw F G1 (upd H1 Z (.lst [])) (wipe σ own) (wipes ρ1 own) Z (.lst []) := rw1.nw hZ ⟨[], upd_same, .nil⟩
  generalize hst : (fun (d : D) (ρ2 : Sta) (k : Option D → Sta → Prop) => asgG g d ρ2 fun ρ3 => evC T c ρ3 fun b ρ4 => if b = true then evE T e ρ4 fun r ρ5 => keep r ρ5 fun x ρ6 => k (some x) (wipes ρ6 own) else k none (wipes ρ4 own)) = step at ev
  have hst' : ∀ d ρ2 k, step d ρ2 k = asgG g d ρ2 fun ρ3 => evC T c ρ3 fun b ρ4 => if b = true then evE T e ρ4 fun r ρ5 => keep r ρ5 fun x ρ6 => k (some x) (wipes ρ6 own) else k none (wipes ρ4 own) := fun d ρ2 k => by rw [← hst]
  refine ⟨fun i m H => m = ds.length - i ∧ i ≤ ds.length ∧ ∃ G2 ρ2 acc, Same G1 G2 ∧ Rl F G2 H (wipe σ own) ρ2 ∧ Nw F G2 H (wipe σ own) ρ2 Z (.lst acc) ∧ compD step (ds.drop i) acc ρ2 _, ⟨ds.length, by simp, Nat.zero_le _, G1, _, [], Same.refl _, rD, nD, ev⟩, ?_⟩
  rintro i m H2 ⟨rfl, hi, G2, ρ2, acc, g2, rl2, n2, cd⟩
  by_cases hlt : i < ds.length
  · rw [List.drop_eq_getElem_cons hlt] at cd
    obtain ⟨hz, cd⟩ := cd
    rw [hst'] at cd
    refine .inr ⟨wk.goes i H2 hlt (g2.trans rl2.sub), fun H' => ∃ G2 ρ2 acc, Same G1 G2 ∧ Rl F G2 H' (wipe σ own) ρ2 ∧ Nw F G2 H' (wipe σ own) ρ2 Z (.lst acc) ∧ compD step (ds.drop (i + 1)) acc ρ2 _, fun H' q => ⟨ds.length - (i + 1), by omega, rfl, hlt, q⟩, fun x H' y => ?_⟩
    obtain ⟨d, e1, e2⟩ := wk.yields i H2 x H' hlt (g2.trans rl2.sub) y
    rw [List.getElem?_eq_getElem hlt] at e1
    cases e1
    have e2' : (H' = H2 ∧ Rp F.K G2 x ds[i]) ∨ ∃ T vs es, x = .ref T ∧ H2 T = none ∧ H' = upd H2 T (.tup vs) ∧ ds[i] = .tup es ∧ RpA F.K G2 vs es := by
      rcases e2 with ⟨q1, q2⟩ | ⟨t, vs, es, q1, q2, q3, q4, q5⟩
      · exact .inl ⟨q1, q2.mono g2⟩
      · exact .inr ⟨t, vs, es, q1, q2, q3, q4, q5.mono g2⟩
    obtain ⟨G3, w3, p3⟩ := came (p := fun _ => True) rl2 e2'
    have rl3 := rl2.grow w3
    have n3 := w3.nw n2
    obtain ⟨vacc, hacc, racc⟩ := n3.con
    have ra := rl3.aside n3 hacc
    refine ⟨F.aside Z (.lst vacc), G3, ρ2, _, rfl, ra, p3, asgG_mono (fun ρ3 cd σ3 hl hoff rl4 => ?_) cd⟩
    have hw : wipe σ3 own = wipe σ own := by
      rw [wipe_eq (σ := wipe σ own) hl fun j hj => hoff j (gIn_of hg j hj), wipe_wipe]
    refine ⟨hw, F.aside Z (.lst vacc), G3, ρ3, rfl, rl4, evC_mono tm c (fun b ρ4 cd G5 H5 g5 rl5 => ?_) cd⟩
    cases b with
    | true =>
      refine ⟨F.aside Z (.lst vacc), G5, ρ4, rfl, rl5, evE_mono tm e (fun r ρ5 cd v G6 H6 g6 rl6 rr6 => ?_) cd⟩
      obtain ⟨G7, x7, ρ7, g7, rl7, p7, cd⟩ := keepR rl6 rr6 cd
      obtain ⟨rl8, n8⟩ := rl3.unaside n3 hacc (g5.trans (g6.trans g7)) rl7
      obtain ⟨vs8, h8, r8⟩ := n8.con
      refine ⟨vs8, h8, by rw [r8.length]; exact hz, ?_⟩
      obtain ⟨rl9, n9⟩ := rl8.mutN n8 (o := .lst (vs8 ++ [v])) (d' := .lst (acc ++ [x7])) ⟨_, upd_same, r8.append (.cons p7 .nil)⟩
      have r10 := rl9.wipe (is := own)
      have n10 := n9.wipe (is := own)
      rw [hw] at r10 n10
      exact ⟨G7, _, _, g2.trans (w3.g.trans (g5.trans (g6.trans g7))), r10, n10, cd⟩
    | false =>
      obtain ⟨rl8, n8⟩ := rl3.unaside n3 hacc g5 rl5
      have r10 := rl8.wipe (is := own)
      have n10 := n8.wipe (is := own)
      rw [hw] at r10 n10
      have cd : compD step (ds.drop (i + 1)) (acc ++ []) _ _ := cd
      rw [List.append_nil] at cd
      exact ⟨G5, _, _, g2.trans (w3.g.trans g5), r10, n10, cd⟩
  · have ei : i = ds.length := by omega
    subst ei
    rw [List.drop_length] at cd
    exact .inl ⟨wk.stops H2 (g2.trans rl2.sub), cd _ G2 H2 (g1.trans g2) (rl2.backs rl1 g2) ⟨Z, rfl, n2.backs⟩⟩
theorem i_comp (tm : T.Mono) {own : List Nat} {g : CG} {it : CI} {c : CC} {e : CE} {Q : VK} (hg : gIn g own = true) (h : LE T K (.comp own g it c e) σ H Q) : tLc (LI T K it) (LG K g) (LC T K c) (LE T K e) own σ H Q := by
  obtain ⟨F, G, ρ, hK, r, ev⟩ := h
  subst hK
  simp only [evE] at ev
  exact ⟨F, G, ρ, rfl, r, evI_mono tm it (fun ds ρ1 ev J G1 H1 g1 rl1 wk => comp_core tm hg g1 rl1 wk ev) ev⟩
/-- the keys of a locked dict, walked -/
theorem wk_keys {K : PySem.W.Frag} {d : Addr} {o : Obj} {kvs : List (Key × V)} {ds : List (D × D)} {G : Hp} (h : G d = some (.frz o (.dK kvs))) (q : RpK K G kvs ds) : WkD K (Itk d o kvs) (ds.map (·.1)) G := by
  have w := walk_keys (d := d) (o := o) (kvs := kvs)
  have e : (ds.map (·.1)).length = kvs.length := by rw [List.length_map, q.length]
  refine ⟨fun i H hi s => w.goes i H (by omega) (s _ _ h), fun H s => by rw [e]; exact w.stops H (s _ _ h), fun i H x H' hi s y => ?_⟩
  obtain ⟨e1, k, v, e2, rfl⟩ := w.yields i H x H' (by omega) (s _ _ h) y
  refine ⟨kD k, ?_, .inl ⟨e1, ?_⟩⟩
  · rw [q.keys, List.getElem?_map, e2]
    rfl
  · cases k with
    | inl i => exact .int i
    | inr z => exact .str z
theorem i_compkL (tm : T.Mono) {own : List Nat} {g : CG} {i : Nat} {c : CC} {e : CE} {Q : VK} {F : Fr} {G : Hp} {ρ : Sta} {d : Addr} {o : Obj} {kvs : List (Key × V)} (hg : gIn g own = true) (r : Rl F G H σ ρ) (hs : σ[i]? = some (some (.ref d))) (hd : G d = some (.frz o (.dK kvs)))
    (ev : evE T (.compk own g i c e) ρ fun r ρ' => ∀ v G' H', Same G G' → Rl F G' H' σ ρ' → RR F G' H' σ ρ' v r → Q v H') :
    tLc (iKeys (tVar i)) (LG F.K g) (LC T F.K c) (LE T F.K e) own σ H Q := by
  simp only [evE] at ev
  split at ev
  · rename_i ds hsl
    obtain ⟨v, h1, h2⟩ := r.fz i _ hsl
    rw [hs] at h1
    cases h1
    refine ⟨.ref d, hs, d, o, rfl, .inl ⟨kvs, r.sub _ _ hd, ?_⟩⟩
    cases h2 with
    | @dct _ kvs' _ q1 q2 =>
      have e : kvs' = kvs := by
        rcases q1 with q1 | ⟨o', q1⟩
        · rw [hd] at q1; cases q1
        · rw [hd] at q1; cases q1; rfl
      subst e
      exact comp_core tm hg (Same.refl G) r (wk_keys hd q2) ev
  · exact ev.elim
/-- the keys of a dict: it is locked meanwhile -/
theorem i_compk (tm : T.Mono) {own : List Nat} {g : CG} {i : Nat} {c : CC} {e : CE} {Q : VK} (hg : gIn g own = true) (h : LE T K (.compk own g i c e) σ H Q) :
    tLc (iKeys (tVar i)) (LG K g) (LC T K c) (LE T K e) own σ H Q ∨ tLockE (tLc (iKeys (tVar i)) (LG K g) (LC T K c) (LE T K e) own) σ H Q := by
  obtain ⟨F, G, ρ, hK, r, ev⟩ := h
  subst hK
  have ev' := ev
  simp only [evE] at ev
  split at ev
  · rename_i ds hsl
    clear ev
    obtain ⟨v, h1, h2⟩ := r.fz i _ hsl
    cases h2 with
    | @dct d kvs _ q1 q2 =>
      rcases q1 with q1 | ⟨o, q1⟩
      · refine .inr ⟨d, .dK kvs, r.sub _ _ q1, True.intro, fun od => ?_⟩
        have lk : Wk G (upd G d (.frz od (.dK kvs))) := fun a u hu => by
          by_cases ha : a = d
          · subst ha
            rw [q1] at hu
            cases hu
            exact .inr ⟨kvs, .inl rfl, .inr ⟨od, upd_same⟩⟩
          · exact .inl (by rw [upd_ne ha]; exact hu)
        have sm : Same (upd G d (.frz od (.dK kvs))) (upd H d (.frz od (.dK kvs))) := fun a u hu => by
          by_cases ha : a = d
          · subst ha
            rw [upd_same] at hu ⊢
            exact hu
          · rw [upd_ne ha] at hu ⊢
            exact r.sub _ _ hu
        have r1 := r.wk lk sm fun a ha => by
          have hne : a ≠ d := fun e => by rw [e, q1] at ha; cases ha
          exact ⟨by rw [upd_ne hne]; exact ha, by rw [upd_ne hne]⟩
        refine i_compkL tm hg r1 h1 upd_same (evE_mono tm _ (fun r2 ρ2 ev v2 G2 H2 g2 rl2 rr2 => ?_) ev')
        have hd2 : G2 d = some (.frz od (.dK kvs)) := g2 _ _ upd_same
        refine ⟨rl2.sub _ _ hd2, ?_⟩
        have ul : Wk G2 (upd G2 d (.dK kvs)) := fun a u hu => by
          by_cases ha : a = d
          · subst ha
            rw [hd2] at hu
            cases hu
            exact .inr ⟨kvs, .inr ⟨od, rfl⟩, .inl upd_same⟩
          · exact .inl (by rw [upd_ne ha]; exact hu)
        have sm2 : Same (upd G2 d (.dK kvs)) (upd H2 d (.dK kvs)) := fun a u hu => by
          by_cases ha : a = d
          · subst ha
            rw [upd_same] at hu ⊢
            exact hu
          · rw [upd_ne ha] at hu ⊢
            exact rl2.sub _ _ hu
        have off : ∀ a, G2 a = none → (upd G2 d (.dK kvs)) a = none ∧ (upd H2 d (.dK kvs)) a = H2 a := fun a ha => by
          have hne : a ≠ d := fun e => by rw [e, hd2] at ha; cases ha
          exact ⟨by rw [upd_ne hne]; exact ha, by rw [upd_ne hne]⟩
        have r3 := rl2.wk ul sm2 off
        refine ev v2 _ _ (fun a u hu => ?_) r3 ?_
        · by_cases ha : a = d
          · subst ha
            rw [q1] at hu
            cases hu
            exact upd_same
          · rw [upd_ne ha]
            exact g2 _ _ (by rw [upd_ne ha]; exact hu)
        · cases r2 with
          | fz x => exact Rp.wk ul rr2
          | al j => exact rr2
          | ow x =>
            obtain ⟨a, e, n⟩ := rr2
            exact ⟨a, e, n.wk ul (off a n.gn).1 (off a n.gn).2⟩
      · exact .inl (i_compkL tm hg r h1 q1 ev')
  · exact ev.elim
end
end DI

set_option Elab.async false
set_option linter.all false
set_option autoImplicit false
set_option maxRecDepth 100000
set_option maxHeartbeats 2000000
/-! DI3f: expressions of the text that pass the check are read as the small language's. -/
namespace DI
open PySem PySem.Spec PyProof.Rows L2

theorem CxOk.blk {T : Tb} {X : Cx} {S : SC} (c : CxOk T X S) {scope : Scope} (hk : scope.kind = .function) (s : Shared) (H : Hp) (C : Addr) (cl : List (Str × Addr)) (fp : List Addr) : CxOk T (X.blk s H scope (compEnvC scope cl C X.env) fp) (S.blk scope) where
  good := ⟨c.good.calm, c.good.guards, c.good.units, c.good.sys⟩
  hW := c.hW
  hN := c.hN
  hsc := by
    show relabel scope X.env = relS scope S.sc
    rw [← c.hsc]
    rfl
  hfn := rfl
  kind := hk
  nd := c.nd
  tm := c.tm
  bfree := c.bfree
  fns := c.fns
  gls := c.gls
  pass := PassesOwn.never
theorem ownOf_snd (N : List Str) : ∀ is : List Nat, (ownOf N is).map (·.2) = is
  | [] => rfl
  | i :: is => by
    show i :: (ownOf N is).map (·.2) = i :: is
    rw [ownOf_snd N is]
section
variable {T : Tb} {X : Cx} {S : SC}
theorem con_of {d : D} {c : Const} {k : Nat} {pos : Pos} (h : conB d c = true) : PE X (.Constant c k pos) (LE T X.K (.con d)) := by
  cases d with
  | non => cases c <;> first | (cases h; done) | exact pe_imp pe_non fun _ _ _ => i_con fun _ => .non
  | bl b =>
    cases c with
    | bool b' =>
      have e : b = b' := by simpa [conB] using h
      subst e
      exact pe_imp pe_bl fun _ _ _ => i_con fun _ => .bl b
    | _ => cases h
  | int i =>
    cases c with
    | int j =>
      have e : i = j := by simpa [conB] using h
      subst e
      exact pe_imp pe_int fun _ _ _ => i_con fun _ => .int i
    | _ => cases h
  | str x =>
    cases c with
    | str y =>
      have e : x = y := by simpa [conB] using h
      subst e
      exact pe_imp pe_str fun _ _ _ => i_con fun _ => .str x
    | _ => cases h
  | _ => cases h
theorem mem_bnames (b : B1) : b.name ∈ bnames := by
  cases b <;> decide +kernel
theorem boot_B : ∀ b : B1, bootBuiltins b.name = some b.val.value := by
  intro b
  cases b <;> decide +kernel
theorem name_ne (b : B1) : b.name ≠ "__name__" ∧ (b.name == ("__debug__" : Str)) = false := by
  cases b <;> decide +kernel
/-- a built-in call by its name -/
theorem bi_of (c : CxOk T X S) {b : B1} {y : Expr} {ys : List Expr} {p pos : Pos} {t : TA} (hg : Gl X b.name) (ha : PA X (y :: ys) t) (hs : starEach (y :: ys) X.env = (false, eval y X.env) :: starEach ys X.env)
    (hpl : (backTo pos (starEach ys X.env)).any (·.1) = false) : PE X (.Call (.Name b.name p) (y :: ys) [] pos) (tCB (rB b X.K) t) := by
  have hm := c.bfree _ (mem_bnames b)
  have hr := callr c.good b
  have hv := boot_B b
  obtain ⟨h1, h2⟩ := name_ne b
  cases e : b.val with
  | bi id => rw [e] at hr hv; exact pe_callB hr hg hm hv ha h1 h2 hs hpl
  | ty id => rw [e] at hr hv; exact pe_callTy hr hg hm hv ha h1 h2 hs hpl
theorem base_of {o : Expr} {n : Str} {env : PySem.Env} {m : Sem Value} (h : baseOk o = true) : attributeBase o n env m = m := by
  cases o <;> first | rfl | cases h
theorem base2_of {o : Expr} {n : Str} {env : PySem.Env} {m : Sem Value} (h : baseOk2 o = true) : attributeBase o n env m = m := by
  cases o with
  | Call f as ks p => cases as with
    | nil => cases h
    | cons a as => cases f <;> rfl
  | _ => first | rfl | cases h
theorem pe_either {e : Expr} {t t' : TE} (h : PE X e t) (h' : PE X e t') : PE X e (fun σ H Q => t σ H Q ∨ t' σ H Q) := ⟨fun pins s σ H Q I q => q.elim (h.run pins s σ H Q I) (h'.run pins s σ H Q I)⟩
theorem ty_boot : ∀ n ∈ tyNames, Str.ofString n ∈ bnames ∧ bootBuiltins (Str.ofString n) = some (.type n) ∧ Str.ofString n ≠ "__name__" ∧ (Str.ofString n == ("__debug__" : Str)) = false := by
  decide +kernel
theorem meth_of {m : N1} {o y : Expr} {apos cpos : Pos} {to te : TE} (hb : baseOk o = true) (ho : PE X o to) (he : PE X y te) (hs : starEach [y] X.env = (false, eval y X.env) :: starEach [] X.env) (hline : (apos.endLine == cpos.line) = true) :
    PE X (.Call (.Attribute o m.name apos) [y] [] cpos) (tM1 (rN m) to te) := by
  cases m with
  | split => exact pe_split ho he hs (base_of hb) hline
theorem sset_of (c : CxOk T X S) {y : Expr} {p1 p2 p3 p4 : Pos} {te : TE} (h1 : Gl X "sorted") (h2 : Gl X "set") (he : PE X y te) (hs : starEach [y] X.env = (false, eval y X.env) :: starEach [] X.env) :
    PE X (.Call (.Name "sorted" p1) [.Call (.Name "set" p2) [y] [] p3] [] p4) (tCB (rSortedSet X.w) (tCons (tCB (rSetLI X.w X.K) (tCons te tNil)) tNil)) := by
  have hm1 := c.bfree "sorted" (by decide +kernel)
  have hm2 := c.bfree "set" (by decide +kernel)
  refine pe_callB (cr_sortedSet c.good.calm) h1 hm1 (by decide +kernel) (pa_cons ?_ pa_nil rfl) (by decide +kernel) (by decide +kernel) rfl rfl
  exact pe_callTy (cr_setLI c.good.calm) h2 hm2 (by decide +kernel) (pa_cons he pa_nil hs) (by decide +kernel) (by decide +kernel) hs rfl
/-- a method that changes the own list in a slot -/
theorem mut1_of {m : M2} {o y : Expr} {ys : List Expr} {apos cpos : Pos} {to : TE} {t : TA} (ha : m.args = true) (ho : PE X o to) (hp : PA X (y :: ys) t)
    (hbase : attributeBase o m.name X.env (eval o X.env) = eval o X.env)
    (hfew : ((backTo cpos (starEach (y :: ys) X.env)).all (fun x => !x.1) && (backToKw cpos (keywordEach [] X.env)).all (fun x => x.1.isSome) && decide ((y :: ys).length + ([] : List Keyword).length + (if ([] : List Keyword).isEmpty then 0 else 1) < 30)) = true)
    (hline : (apos.endLine == cpos.line) = true) (hs : starEach (y :: ys) X.env = (false, eval y X.env) :: starEach ys X.env) (hpl : (backTo cpos (starEach ys X.env)).any (·.1) = false) :
    PE X (.Call (.Attribute o m.name apos) (y :: ys) [] cpos) (tBM X.K "list" (rM m) to t) := by
  cases m with
  | append => exact pe_bm PySem.F.plainAttrs_list PySem.F.slot_list_append PySem.F.type_list_append mt_append ho hp hbase hfew hline hs hpl
  | extend => exact pe_bm PySem.F.plainAttrs_list PySem.F.slot_list_extend PySem.F.type_list_extend mt_extend ho hp hbase hfew hline hs hpl
  | pop => cases ha
  | popAt => exact pe_bm PySem.F.plainAttrs_list PySem.F.slot_list_pop PySem.F.type_list_pop mt_popAt ho hp hbase hfew hline hs hpl
  | insert => exact pe_bm PySem.F.plainAttrs_list PySem.F.slot_list_insert PySem.F.type_list_insert mt_insert ho hp hbase hfew hline hs hpl
theorem mut0_of {m : M2} {o : Expr} {apos cpos : Pos} {to : TE} (ha : m.args = false) (ho : PE X o to) (hbase : attributeBase o m.name X.env (eval o X.env) = eval o X.env) (hline : (apos.endLine == cpos.line) = true) :
    PE X (.Call (.Attribute o m.name apos) [] [] cpos) (tBM0 X.K "list" (rM m) to) := by
  cases m with
  | pop => exact pe_bm0 PySem.F.plainAttrs_list PySem.F.slot_list_pop PySem.F.type_list_pop mt_pop ho hbase hline
  | _ => cases ha
theorem chkA_nil {cs : CA} (h : chkA S cs [] = true) : cs = .nil := by
  cases cs with
  | nil => rfl
  | cons c cs => simp [chkA] at h
theorem blkC_kind {N : List Str} {sc scope : Scope} {own : List (Str × Nat)} (h : blkC N sc scope own = true) : scope.kind = .function := (blkOk_by h).kind
end
theorem tail_star {S : SC} {cs : CA} {y : Expr} {ys : List Expr} (h : chkA S cs (y :: ys) = true) (env : PySem.Env) (pos : Pos) : (backTo pos (starEach ys env)).any (·.1) = false := by
  cases cs with
  | nil => simp [chkA] at h
  | cons c cs =>
    simp only [chkA, Bool.and_eq_true] at h
    exact (chkA_star h.2 env pos).1
theorem chkA_len1 {S : SC} {cs : CA} {a : Expr} (h : chkA S cs [a] = true) : ∃ c, cs = .cons c .nil := by
  cases cs with
  | nil => simp [chkA] at h
  | cons c cs =>
    simp only [chkA, Bool.and_eq_true] at h
    rw [chkA_nil h.2]
    exact ⟨c, rfl⟩
theorem chkA_len2 {S : SC} {cs : CA} {a b : Expr} (h : chkA S cs [a, b] = true) : ∃ c c2, cs = .cons c (.cons c2 .nil) := by
  cases cs with
  | nil => simp [chkA] at h
  | cons c cs =>
    simp only [chkA, Bool.and_eq_true] at h
    obtain ⟨c2, rfl⟩ := chkA_len1 h.2
    exact ⟨c, c2, rfl⟩
theorem bool_of {S : SC} {c : CT} {op : BoolOp} {es : List Expr} {p : Pos} (h : chkT S c (.BoolOp op es p) = true) : ∃ a b, c = .and a b ∨ c = .or a b := by
  cases c with
  | cmp o a b => simp [chkT] at h
  | and a b => exact ⟨a, b, .inl rfl⟩
  | or a b => exact ⟨a, b, .inr rfl⟩
  | not a => simp [chkT] at h
  | val a => simp [chkT, plainT] at h
mutual
theorem sE {T : Tb} : ∀ (c : CE) {X : Cx} {S : SC} {e : Expr}, CxOk T X S → chkE S c e = true → PE X e (LE T X.K c)
  | .var i, X, S, e, k, h => by
    simp only [chkE] at h
    split at h
    · exact pe_imp (name_of k h) fun _ _ _ => i_var
    · cases h
  | .con d, X, S, e, k, h => by
    simp only [chkE] at h
    split at h
    · exact con_of h
    · cases h
  | .glo n, X, S, e, k, h => by
    simp only [chkE] at h
    split at h
    · simp only [Bool.and_eq_true, decide_eq_true_eq, Bool.not_eq_true'] at h
      obtain ⟨⟨⟨h1, h2⟩, h3⟩, h4⟩ := h
      obtain ⟨v, u, q1, q2, q3⟩ := k.gls n h1
      rw [h2] at q1
      exact pe_imp (pe_glob (glo_of k h3) q1 q2 h4) fun _ _ _ => i_glo q3
    · cases h
  | .op2 o a b, X, S, e, k, h => by
    simp only [chkE] at h
    split at h
    · simp only [Bool.and_eq_true] at h
      exact pe_imp (pe_op (opr_bin (isBin_of h.1.1)) (sE a k h.1.2) (sE b k h.2)) fun _ _ _ z => by (have q := i_op2 k.tm z; rw [k.hW] at q; exact q)
    · simp only [Bool.and_eq_true, Bool.not_eq_true'] at h
      exact pe_imp (pe_cmpR (opr_cmp k.good.units (isCmp_of h.1.1.1)) (sE a k h.1.1.2) (sE b k h.1.2) h.2) fun _ _ _ z => by (have q := i_op2 k.tm z; rw [k.hW] at q; exact q)
    · simp only [Bool.and_eq_true] at h
      exact pe_imp (pe_ix (opr_ix (isIdx_of h.1.1.1)) (sE a k h.1.1.2) (sE b k h.1.2) (ix_of h.2)) fun _ _ _ z => by (have q := i_op2 k.tm z; rw [k.hW] at q; exact q)
    · cases h
  | .op1 o a, X, S, e, k, h => by
    simp only [chkE] at h
    split at h
    · cases o
      exact pe_imp (pe_un un_neg (sE a k h)) fun _ _ _ => i_neg k.tm
    · cases h
  | .and a b, X, S, e, k, h => by
    simp only [chkE] at h
    split at h
    · simp only [Bool.and_eq_true] at h
      exact pe_imp (pe_and (sE a k h.1) (pe_one (sE b k h.2))) fun _ _ _ => i_and k.tm
    · simp only [Bool.and_eq_true] at h
      exact pe_imp (pe_and (sE a k h.1) (sE b k h.2)) fun _ _ _ => i_and k.tm
    · cases h
  | .or a b, X, S, e, k, h => by
    simp only [chkE] at h
    split at h
    · simp only [Bool.and_eq_true] at h
      exact pe_imp (pe_or (sE a k h.1) (pe_one (sE b k h.2))) fun _ _ _ => i_or k.tm
    · simp only [Bool.and_eq_true] at h
      exact pe_imp (pe_or (sE a k h.1) (sE b k h.2)) fun _ _ _ => i_or k.tm
    · cases h
  | .not a, X, S, e, k, h => by
    simp only [chkE] at h
    split at h
    · exact pe_imp (pe_not (sE a k h)) fun _ _ _ => i_not k.tm
    · cases h
  | .ifx t a b, X, S, e, k, h => by
    simp only [chkE] at h
    split at h
    · simp only [Bool.and_eq_true] at h
      exact pe_imp (pe_ifExp (sT t k h.1.1) (sE a k h.1.2) (sE b k h.2)) fun _ _ _ => i_ifx k.tm
    · cases h
  | .lst es, X, S, e, k, h => by
    simp only [chkE] at h
    split at h
    · exact pe_imp (pe_lst (sK es k h)) fun _ _ _ => i_lst k.tm
    · cases h
  | .tup es, X, S, e, k, h => by
    simp only [chkE] at h
    split at h
    · exact pe_imp (pe_tup (sK es k h)) fun _ _ _ => i_tup k.tm
    · cases h
  | .slc a lo hi, X, S, e, k, h => by
    simp only [chkE] at h
    split at h
    · simp only [Bool.and_eq_true] at h
      exact pe_imp (pe_slice (sl_list.or (sl_tupA.or sl_str)) (sE a k h.1.1) (sO lo k h.1.2) (sO hi k h.2)) fun _ _ _ => i_slc k.tm
    · cases h
  | .bi b es, X, S, e, k, h => by
    simp only [chkE] at h
    split at h
    · simp only [Bool.and_eq_true, decide_eq_true_eq] at h
      obtain ⟨⟨h1, h2⟩, h3⟩ := h
      subst h1
      exact pe_imp (bi_of k (glo_of k h2) (sA es k h3) (star_of (chkA_head h3)) (tail_star h3 X.env _)) fun _ _ _ => i_bi k.tm
    · cases h
  | .meth m a y, X, S, e, k, h => by
    simp only [chkE] at h
    split at h
    · simp only [Bool.and_eq_true, decide_eq_true_eq] at h
      obtain ⟨⟨⟨⟨⟨h1, h2⟩, h3⟩, h4⟩, h5⟩, h6⟩ := h
      subst h1
      exact pe_imp (meth_of h2 (sE a k h5) (sE y k h6) (star_of h4) h3) fun _ _ _ => i_meth k.tm
    · cases h
  | .sset y, X, S, e, k, h => by
    simp only [chkE] at h
    split at h
    · simp only [Bool.and_eq_true, decide_eq_true_eq] at h
      obtain ⟨⟨⟨⟨⟨h1, h2⟩, h3⟩, h4⟩, h5⟩, h6⟩ := h
      subst h1
      subst h2
      exact pe_imp (sset_of k (glo_of k h3) (glo_of k h4) (sE y k h6) (star_of h5)) fun _ _ _ => i_sset k.tm
    · cases h
  | .dn1 a b, X, S, e, k, h => by
    simp only [chkE] at h
    split at h
    · simp only [Bool.and_eq_true] at h
      exact pe_imp (pe_dn1 k.good.units (sE a k h.1) (sE b k h.2)) fun _ _ _ z => by
        have q := i_dn1 k.tm z
        rw [k.hW] at q
        exact q
    · cases h
  | .tyc n, X, S, e, k, h => by
    simp only [chkE] at h
    split at h
    · simp only [Bool.and_eq_true, decide_eq_true_eq] at h
      obtain ⟨⟨h1, h2⟩, h3⟩ := h
      subst h1
      obtain ⟨q1, q2, q3, q4⟩ := ty_boot n h2
      exact pe_imp (pe_bltn (v := .ty n) (glo_of k h3) (k.bfree _ q1) q2 rfl q3 q4) fun _ _ _ => i_tyc
    · cases h
  | .dk0, X, S, e, k, h => by
    simp only [chkE] at h
    split at h
    · exact pe_imp pe_dnewK fun _ _ _ => i_dk0
    · cases h
  | .dk1 x v, X, S, e, k, h => by
    simp only [chkE] at h
    split at h
    · simp only [Bool.and_eq_true, decide_eq_true_eq] at h
      obtain ⟨h1, h2⟩ := h
      subst h1
      exact pe_imp (pe_disp (pps_cons pe_str (sE v k h2) pps_nil) rfl rfl (by simp) (by simp)) fun _ _ _ => i_dk1 k.tm
    · cases h
  | .upper a, X, S, e, k, h => by
    simp only [chkE] at h
    split at h
    · simp only [Bool.and_eq_true, decide_eq_true_eq] at h
      obtain ⟨⟨⟨h1, h2⟩, h3⟩, h4⟩ := h
      subst h1
      exact pe_imp (pe_upper (sE a k h4) (base2_of h2) h3) fun _ _ _ => i_upper k.tm
    · cases h
  | .cnt a y, X, S, e, k, h => by
    simp only [chkE] at h
    split at h
    · rename_i cpos
      simp only [Bool.and_eq_true, decide_eq_true_eq] at h
      obtain ⟨⟨⟨⟨⟨h1, h2⟩, h3⟩, h4⟩, h5⟩, h6⟩ := h
      subst h1
      have hs := star_of (es := []) (env := X.env) h4
      have hf : ∀ pos, (backTo pos (starEach [_] X.env)).all (fun x => !x.1) = true := fun pos => by rw [hs]; rfl
      exact pe_imp (pe_bm PySem.F.plainAttrs_list PySem.F.slot_list_count (by kernel_rfl) (mt_cnt k.good.units) (sE a k h5) (pa_cons (sE y k h6) pa_nil hs) (base2_of h2) (by rw [hf]; simp [keywordEach, backToKw]) h3 hs rfl) fun _ _ _ => i_cnt k.tm
    · cases h
  | .compk own g i t c, X, S, e, k, h => by
    simp only [chkE] at h
    split at h
    · rename_i npos ifs_ sc_ cpos
      simp only [Bool.and_eq_true] at h
      obtain ⟨⟨⟨⟨⟨h1, h2⟩, h3⟩, h4⟩, h5⟩, h7⟩ := h
      have hk := blkC_kind h1
      have q := pe_lc (own := ownOf S.N own) (pos := cpos) (wi := iKeys (tVar i)) (g := LG X.K g) (tt := LC T X.K t) (te := LE T X.K c) k.good.calm k.nd (pi_keys (name_of (pos := npos) k h2)) (by rw [k.hN, k.hsc]; exact blkOk_by h1) (fun s H C cl fp => sG (k.blk hk s H C cl fp) h3) (fun s H C cl fp => sC t (k.blk hk s H C cl fp) h4) (fun s H C cl fp => sE c (k.blk hk s H C cl fp) h5) (set_of rfl X.env)
      rw [ownOf_snd] at q
      exact pe_imp (pe_either q (pe_lock q)) fun _ _ _ => i_compk k.tm h7
    · cases h
  | .mut m i es, X, S, e, k, h => by
    simp only [chkE] at h
    split at h
    · rename_i ys cpos
      simp only [Bool.and_eq_true, decide_eq_true_eq] at h
      obtain ⟨⟨⟨⟨h1, h2⟩, h3⟩, h4⟩, h5⟩ := h
      subst h1
      cases ys with
      | nil =>
        have e := chkA_nil h5
        subst e
        exact pe_imp (mut0_of (by simpa using h4) (name_of k h2) rfl h3) fun _ _ _ => i_mut0 k.tm
      | cons y ys =>
        simp only [Bool.and_eq_true, decide_eq_true_eq] at h4
        have hs := star_of (es := ys) (env := X.env) (chkA_head h5)
        have hf := (chkA_star h5 X.env cpos).2
        exact pe_imp (mut1_of h4.1 (name_of k h2) (sK es k h5) rfl (by rw [hf]; simp [keywordEach, backToKw]; simpa using h4.2) h3 hs (tail_star h5 X.env _)) fun _ _ _ => i_mut1 k.tm
    · cases h
  | .call n es, X, S, e, k, h => by
    simp only [chkE] at h
    split at h
    · simp only [Bool.and_eq_true, decide_eq_true_eq, Bool.not_eq_true'] at h
      obtain ⟨⟨⟨⟨h1, h2⟩, h3⟩, h4⟩, h5⟩ := h
      obtain ⟨f, fd, ps, lv, q1, q2, q3, q4, q5⟩ := k.fns n h1
      rw [h2] at q1
      exact pe_imp (pe_callG q5 k.good.guards q4 (glo_of k h3) q1 q2 q3 (sA es k h5) h4 (star_of (chkA_head h5)) (tail_star h5 X.env _)) fun _ _ _ => i_call k.tm
    · cases h
  | .comp own g it t c, X, S, e, k, h => by
    simp only [chkE] at h
    split at h
    · rename_i cpos
      simp only [Bool.and_eq_true] at h
      obtain ⟨⟨⟨⟨⟨⟨h1, h2⟩, h3⟩, h4⟩, h5⟩, h6⟩, h7⟩ := h
      have hk := blkC_kind h1
      have q := pe_lc (own := ownOf S.N own) (pos := cpos) (wi := LI T X.K it) (g := LG X.K g) (tt := LC T X.K t) (te := LE T X.K c) k.good.calm k.nd (sI it k h2) (by rw [k.hN, k.hsc]; exact blkOk_by h1) (fun s H C cl fp => sG (k.blk hk s H C cl fp) h3) (fun s H C cl fp => sC t (k.blk hk s H C cl fp) h4) (fun s H C cl fp => sE c (k.blk hk s H C cl fp) h5) (set_of h6 X.env)
      rw [ownOf_snd] at q
      exact pe_imp q fun _ _ _ => i_comp k.tm h7
    · cases h
theorem sA {T : Tb} : ∀ (c : CA) {X : Cx} {S : SC} {es : List Expr}, CxOk T X S → chkA S c es = true → PA X es (LA T X.K c)
  | .nil, X, S, es, k, h => by
    simp only [chkA, List.isEmpty_iff] at h
    subst h
    exact pa_imp pa_nil fun _ _ _ => i_nil
  | .cons c cs, X, S, es, k, h => by
    simp only [chkA] at h
    split at h
    · simp only [Bool.and_eq_true] at h
      exact pa_imp (pa_cons (sE c k h.1.2) (sA cs k h.2) (star_of h.1.1)) fun _ _ _ => i_cons k.tm
    · cases h
theorem sK {T : Tb} : ∀ (c : CA) {X : Cx} {S : SC} {es : List Expr}, CxOk T X S → chkA S c es = true → PA X es (LK T X.K c)
  | .nil, X, S, es, k, h => by
    simp only [chkA, List.isEmpty_iff] at h
    subst h
    exact pa_imp pa_nil fun _ _ _ => i_nilK
  | .cons c cs, X, S, es, k, h => by
    simp only [chkA] at h
    split at h
    · simp only [Bool.and_eq_true] at h
      exact pa_imp (pa_cons (sE c k h.1.2) (sK cs k h.2) (star_of h.1.1)) fun _ _ _ => i_consK k.tm
    · cases h
theorem sO {T : Tb} : ∀ (c : CO) {X : Cx} {S : SC} {e : Option Expr}, CxOk T X S → chkO S c e = true → PO X e (LO T X.K c)
  | .none, X, S, e, k, h => by
    simp only [chkO, Option.isNone_iff_eq_none] at h
    subst h
    exact po_imp po_none fun _ _ _ => i_none
  | .some c, X, S, e, k, h => by
    simp only [chkO] at h
    split at h
    · exact po_imp (po_some (sE c k h)) fun _ _ _ => i_some k.tm
    · cases h
theorem sC {T : Tb} : ∀ (c : CC) {X : Cx} {S : SC} {es : List Expr}, CxOk T X S → chkC S c es = true → PTs X es (LC T X.K c)
  | .none, X, S, es, k, h => by
    simp only [chkC, List.isEmpty_iff] at h
    subst h
    refine pts_imp pts_nil fun _ _ _ q => ?_
    obtain ⟨F, G, ρ, hK, r, ev⟩ := q
    exact ev G _ (Same.refl G) r
  | .some c, X, S, es, k, h => by
    simp only [chkC] at h
    split at h
    · refine pts_imp (pts_one (sT c k h)) fun _ _ _ q => ?_
      obtain ⟨F, G, ρ, hK, r, ev⟩ := q
      simp only [evC] at ev
      exact ⟨F, G, ρ, hK, r, ev⟩
    · cases h
theorem sT {T : Tb} : ∀ (c : CT) {X : Cx} {S : SC} {e : Expr}, CxOk T X S → chkT S c e = true → PT X e (LT T X.K c)
  | .cmp o a b, X, S, e, k, h => by
    simp only [chkT] at h
    split at h
    · simp only [Bool.and_eq_true, Bool.not_eq_true'] at h
      exact pt_imp (pt_cmpR (opr_cmp k.good.units (isCmp_of h.1.1.1)) (sE a k h.1.1.2) (sE b k h.1.2) h.2) fun _ _ _ z => by (have q := i_cmpT k.tm z; rw [k.hW] at q; exact q)
    · cases h
  | .and a b, X, S, e, k, h => (sW (.and a b) k h ⟨a, b, .inl rfl⟩).pt
  | .or a b, X, S, e, k, h => (sW (.or a b) k h ⟨a, b, .inr rfl⟩).pt
  | .not a, X, S, e, k, h => by
    simp only [chkT] at h
    split at h
    · exact pt_imp (pt_not (sT a k h)) fun _ _ _ => i_notT k.tm
    · cases h
  | .val c, X, S, e, k, h => by
    simp only [chkT, Bool.and_eq_true] at h
    exact pt_imp (pt_truth (sE c k h.2) (plain_of h.1 X.env)) fun _ _ _ => i_val k.tm
theorem sW {T : Tb} : ∀ (c : CT) {X : Cx} {S : SC} {e : Expr}, CxOk T X S → chkT S c e = true → (∃ a b, c = .and a b ∨ c = .or a b) → PW X e (LT T X.K c)
  | .and a b, X, S, e, k, h, _ => by
    simp only [chkT] at h
    split at h
    · simp only [Bool.and_eq_true] at h
      exact pw_imp (pw_and (sT a k h.1) (pw_and1 (sT b k h.2))) fun _ _ _ => i_andT k.tm
    · simp only [Bool.and_eq_true] at h
      exact pw_imp (pw_and (sT a k h.1) (sW b k h.2 (bool_of h.2))) fun _ _ _ => i_andT k.tm
    · cases h
  | .or a b, X, S, e, k, h, _ => by
    simp only [chkT] at h
    split at h
    · simp only [Bool.and_eq_true] at h
      exact pw_imp (pw_or (sT a k h.1) (pw_or1 (sT b k h.2))) fun _ _ _ => i_orT k.tm
    · simp only [Bool.and_eq_true] at h
      exact pw_imp (pw_or (sT a k h.1) (sW b k h.2 (bool_of h.2))) fun _ _ _ => i_orT k.tm
    · cases h
  | .cmp o a b, _, _, _, _, _, q => by obtain ⟨_, _, q | q⟩ := q <;> cases q
  | .not a, _, _, _, _, _, q => by obtain ⟨_, _, q | q⟩ := q <;> cases q
  | .val a, _, _, _, _, _, q => by obtain ⟨_, _, q | q⟩ := q <;> cases q
theorem sI {T : Tb} : ∀ (c : CI) {X : Cx} {S : SC} {tg e : Expr}, CxOk T X S → chkI S c tg e = true → PI X tg e (LI T X.K c)
  | .seq c, X, S, tg, e, k, h => by
    simp only [chkI] at h
    exact pi_imp (pi_seq (sE c k h)) fun _ _ _ => i_seq k.tm
  | .range cs, X, S, tg, e, k, h => by
    simp only [chkI] at h
    split at h
    · simp only [Bool.and_eq_true, decide_eq_true_eq] at h
      obtain ⟨⟨⟨h1, h2⟩, h3⟩, h4⟩ := h
      subst h1
      obtain ⟨c, rfl⟩ := chkA_len1 h4
      exact pi_imp (pi_range1 (glo_of k h2) (k.bfree _ (by decide +kernel)) (sA (.cons c .nil) k h4) (star_of h3)) fun _ _ _ => i_rng1 k.tm
    · simp only [Bool.and_eq_true, decide_eq_true_eq] at h
      obtain ⟨⟨⟨⟨h1, h2⟩, h3⟩, h3'⟩, h4⟩ := h
      subst h1
      obtain ⟨c, c2, rfl⟩ := chkA_len2 h4
      exact pi_imp (pi_range2 (glo_of k h2) (k.bfree _ (by decide +kernel)) (sA (.cons c (.cons c2 .nil)) k h4) (by rw [star_of h3, star_of h3']; rfl) (star_of h3')) fun _ _ _ => i_rng2 k.tm
    · cases h
  | .enum c, X, S, tg, e, k, h => by
    simp only [chkI] at h
    split at h
    · simp only [Bool.and_eq_true, decide_eq_true_eq] at h
      obtain ⟨⟨⟨h1, h2⟩, h3⟩, h4⟩ := h
      subst h1
      exact pi_imp (pi_enum (glo_of k h2) (k.bfree _ (by decide +kernel)) (pa_imp (pa_cons (sE c k h4) (pa_imp pa_nil fun _ _ _ => i_nilK) (star_of h3)) fun _ _ _ => i_consK k.tm) (star_of h3)) fun _ _ _ => i_enum k.tm
    · cases h
end
end DI

set_option Elab.async false
set_option linter.all false
set_option autoImplicit false
set_option maxRecDepth 100000
set_option maxHeartbeats 2000000
namespace DI
open PySem PySem.Spec PyProof.Rows L2
theorem filterMap_lt {α β : Type} {f : α → Option β} : ∀ {l : List α}, (∃ x ∈ l, f x = none) → (l.filterMap f).length < l.length
  | [], ⟨_, h, _⟩ => by simp at h
  | a :: l, ⟨x, hm, hx⟩ => by
    have hle : (l.filterMap f).length ≤ l.length := List.length_filterMap_le f l
    rcases List.mem_cons.mp hm with e | e
    · subst e
      rw [List.filterMap_cons, hx]
      simp only [List.length_cons]
      omega
    · have ih := filterMap_lt ⟨x, e, hx⟩
      rw [List.filterMap_cons, List.length_cons]
      split
      · omega
      · rw [List.length_cons]; omega
theorem sw_none {ts vs : List Expr} {k k2 : Nat} {p p2 : Pos} {env : PySem.Env} (h : ∃ t ∈ ts, ∀ x q, t = .Name x q → env.kindOf x ≠ some .local) : swappedStores [.Tuple ts k p] (.Tuple vs k2 p2) env = pure none := by
  unfold swappedStores
  simp only
  split
  · rfl
  · split
    · rfl
    · have q : (ts.filterMap fun | Expr.Name id pos => if (env.kindOf id == some NameKind.local && pos.line == (Option.map (fun x => x.pos.line) ts.head?).getD 0) = true then some id else none | _ => none).length < ts.length := by
        obtain ⟨t, h1, h2⟩ := h
        refine filterMap_lt ⟨t, h1, ?_⟩
        split
        · rename_i x q
          have := h2 x q rfl
          rw [if_neg]
          simp [this]
        · rfl
      rw [if_pos]
      · rw [Bool.or_eq_true]
        exact .inl (bne_iff_ne.mpr (Nat.ne_of_lt q))
theorem sw_some {a b : Str} {pa pb p p2 : Pos} {x y : Expr} {k k2 : Nat} {env : PySem.Env} (hk : env.scope.kind = .function) (ha : env.scope.names.lookup a = some .local) (hb : env.scope.names.lookup b = some .local) (hl : (pb.line == pa.line) = true) (ne : a ≠ b)
    (n1 : noStar x = true) (n2 : noStar y = true) (n3 : (foldedForSure 8 x && foldedForSure 8 y) = false) (n4 : (constantsAlone 8 x && constantsAlone 8 y) = false) :
    swappedStores [.Tuple [.Name a pa, .Name b pb] k p] (.Tuple [x, y] k2 p2) env = pure (some [a, b]) := by
  have hbk : env.blockKind = .function := by
    unfold Env.blockKind
    rw [hk]
    rfl
  have ka : env.kindOf a = some .local := ha
  have kb : env.kindOf b = some .local := hb
  have s1 : ([x, y].any fun | .Starred _ _ => true | _ => false) = false := by
    have star1 : ∀ z : Expr, noStar z = true → (match z with | .Starred _ _ => true | _ => false) = false := by
      intro z hz
      cases z <;> first | rfl | cases hz
    rw [List.any_cons, List.any_cons, List.any_nil]
    rw [star1 x n1, star1 y n2]
    rfl
  unfold swappedStores
  simp only [hbk, List.length_cons, List.length_nil]
  rw [if_neg (by decide)]
  refine (if_neg (fun z => Bool.false_ne_true (s1.symm.trans z))).trans ?_
  have e : ([Expr.Name a pa, Expr.Name b pb].filterMap fun | Expr.Name id pos => if (env.kindOf id == some NameKind.local && pos.line == (Option.map (fun x => x.pos.line) [Expr.Name a pa, Expr.Name b pb].head?).getD 0) = true then some id else none | _ => none) = [a, b] := by
    have hl' : pb.line = pa.line := by simpa using hl
    simp [ka, kb, Expr.pos, hl']
  have key : ∀ L : List Str, L = [a, b] → ¬ ((L.length != 2 || L.eraseDups.length != L.length) = true) := by
    intro L hL
    subst hL
    have e1 : [a, b].eraseDups = [a, b] := by
      rw [List.eraseDups_cons]
      have : ([b].filter fun c => !c == a) = [b] := by simp [Ne.symm ne]
      rw [this]
      rfl
    rw [e1]
    simp
  refine (if_neg (key _ e)).trans ?_
  rw [if_neg (by simp only [List.all_cons, List.all_nil, Bool.and_true]; rw [n3]; decide), if_neg (by simp only [List.all_cons, List.all_nil, Bool.and_true]; rw [n4]; decide)]
  exact congrArg (fun l => pure (some l)) e
end DI

set_option Elab.async false
set_option linter.all false
set_option autoImplicit false
set_option maxRecDepth 100000
set_option maxHeartbeats 2000000
/-! DI3g: statements. -/
namespace DI
open PySem PySem.Spec PyProof.Rows L2
def EnL (F : Fr) (G : Hp) (D : Ends) : En where
  nx := fun ρ' => ∀ σ' G' H', Same G G' → Rl F G' H' σ' ρ' → D.nx σ' H'
  rt := fun r ρ' => ∀ σ' v G' H', Same G G' → Rl F G' H' σ' ρ' → RR F G' H' σ' ρ' v r → D.rt v H'
  bk := fun ρ' => ∀ σ' G' H', Same G G' → Rl F G' H' σ' ρ' → D.bk σ' H'
  ct := fun ρ' => ∀ σ' G' H', Same G G' → Rl F G' H' σ' ρ' → D.ct σ' H'
def LS (T : Tb) (K : PySem.W.Frag) (c : CS) : TS := fun D σ H => ∃ F G ρ, F.K = K ∧ Rl F G H σ ρ ∧ evS T c ρ (EnL F G D)
def LB (T : Tb) (K : PySem.W.Frag) (c : List CS) : TS := fun D σ H => ∃ F G ρ, F.K = K ∧ Rl F G H σ ρ ∧ evB T c ρ (EnL F G D)
theorem EnL.mono {F : Fr} {G G' : Hp} {D : Ends} (g : Same G G') : (EnL F G D).Le (EnL F G' D) :=
  ⟨fun ρ h σ' G2 H2 g2 => h σ' G2 H2 (g.trans g2), fun r ρ h σ' v G2 H2 g2 => h σ' v G2 H2 (g.trans g2), fun ρ h σ' G2 H2 g2 => h σ' G2 H2 (g.trans g2), fun ρ h σ' G2 H2 g2 => h σ' G2 H2 (g.trans g2)⟩
theorem RpN.length {K : PySem.W.Frag} {G : Hp} : ∀ {xs : List (NestedKey × Addr × Value)} {ds : List (NestedKey × D)}, RpN K G xs ds → xs.length = ds.length
  | _, _, .nil => rfl
  | _, _, .cons _ _ _ _ _ r => by rw [List.length_cons, List.length_cons, RpN.length r]
section
variable {T : Tb} {K : PySem.W.Frag} {σ : L2.St} {H : Hp} {D : Ends}
theorem s_asgN (tm : T.Mono) {i : Nat} {e : CE} (h : LS T K (.asg (.name i) e) D σ H) : tAsg (LE T K e) (gName i) D σ H := by
  obtain ⟨F, G, ρ, hK, r, ev⟩ := h
  subst hK
  simp only [evS] at ev
  refine ⟨F, G, ρ, rfl, r, evE_mono tm e (fun r1 ρ1 ev v1 G1 H1 g1 rl1 rr1 => ?_) ev⟩
  cases r1 with
  | ow d =>
    obtain ⟨a, rfl, n⟩ := rr1
    exact ev _ G1 H1 g1 (rl1.put_ow n)
  | fz d => exact ev _ G1 H1 g1 (rl1.put_fz rr1)
  | al j =>
    obtain ⟨G2, d, ρ2, g2, rl2, p, ev⟩ := keepR rl1 rr1 ev
    exact ev _ G2 H1 (g1.trans g2) (rl2.put_fz p)
theorem s_asgT (tm : T.Mono) {is : List Nat} {e : CE} (h : LS T K (.asg (.tup is) e) D σ H) : tAsg (LE T K e) (LG K (.tup is)) D σ H := by
  obtain ⟨F, G, ρ, hK, r, ev⟩ := h
  subst hK
  simp only [evS] at ev
  refine ⟨F, G, ρ, rfl, r, evE_mono tm e (fun r1 ρ1 ev v1 G1 H1 g1 rl1 rr1 => ?_) ev⟩
  obtain ⟨G2, d, ρ2, g2, rl2, p, ev⟩ := keepR rl1 rr1 ev
  exact ⟨F, G2, ρ2, d, rfl, rl2, p, asgG_mono (fun ρ3 ev σ3 _ _ rl3 => ev σ3 G2 H1 (g1.trans g2) rl3) ev⟩
theorem s_par (tm : T.Mono) {i j : Nat} {a b : CE} (h : LS T K (.par i j a b) D σ H) : tPar i j (tCons (LE T K a) (tCons (LE T K b) tNil)) D σ H := by
  obtain ⟨F, G, ρ, hK, r, ev⟩ := h
  subst hK
  simp only [evS] at ev
  refine ⟨F, G, ρ, rfl, r, evE_mono tm a (fun r1 ρ1 ev v1 G1 H1 g1 rl1 rr1 => ?_) ev⟩
  cases r1 with
  | ow d =>
    obtain ⟨x, rfl, n⟩ := rr1
    obtain ⟨o, ho⟩ : ∃ o, H1 x = some o := by
      cases q : H1 x with
      | none => exact absurd q n.con.some
      | some o => exact ⟨o, rfl⟩
    refine ⟨F.aside x o, G1, ρ1, rfl, rl1.aside n ho, evE_mono tm b (fun r2 ρ2 ev v2 G2 H2 g2 rl2 rr2 => ?_) ev⟩
    refine ⟨_, _, rfl, ?_⟩
    obtain ⟨rl3, n3⟩ := rl1.unaside n ho g2 rl2
    have rl4 := rl3.put_ow (i := i) n3
    cases r2 with
    | ow e =>
      obtain ⟨y, rfl, m⟩ := rr2
      refine ev _ G2 H2 (g1.trans g2) (rl4.put_ow ⟨fun z => m.np (.inr z), m.gn, m.con, fun l d' hl hs => ?_, m.bg⟩)
      rcases put_at hl with ⟨el, _⟩ | ⟨nl, hl⟩
      · subst el
        have hs : (σ.set l (some (.ref x)))[l]? = some (some (.ref y)) := hs
        by_cases hb : l < σ.length
        · rw [List.getElem?_set_self hb] at hs
          cases hs
          exact m.np (.inl rfl)
        · rw [List.getElem?_eq_none (by simpa using hb)] at hs
          cases hs
      · rw [set_at nl] at hs
        exact m.sl l d' hl hs
    | fz e => exact ev _ G2 H2 (g1.trans g2) (rl4.put_fz rr2)
    | al l => exact ev.elim
  | fz d =>
    refine ⟨F, G1, ρ1, rfl, rl1, evE_mono tm b (fun r2 ρ2 ev v2 G2 H2 g2 rl2 rr2 => ?_) ev⟩
    refine ⟨_, _, rfl, ?_⟩
    have p : Rp F.K G2 v1 d := Rp.mono g2 rr1
    have rl4 := rl2.put_fz (i := i) p
    cases r2 with
    | ow e =>
      obtain ⟨y, rfl, m⟩ := rr2
      refine ev _ G2 H2 (g1.trans g2) (rl4.put_ow ⟨m.np, m.gn, m.con, fun l d' hl hs => ?_, m.bg⟩)
      rcases put_at hl with ⟨el, z⟩ | ⟨nl, hl⟩
      · cases z
      · rw [set_at nl] at hs
        exact m.sl l d' hl hs
    | fz e => exact ev _ G2 H2 (g1.trans g2) (rl4.put_fz rr2)
    | al l => exact ev.elim
  | al l =>
    refine ⟨F, G1, ρ1, rfl, rl1, evE_mono tm b (fun r2 ρ2 ev v2 G2 H2 g2 rl2 rr2 => ?_) ev⟩
    exact ev.elim
theorem s_sub (tm : T.Mono) {i : Nat} {k e : CE} (h : LS T K (.sub i k e) D σ H) : tAsg (LE T K e) (gSub (tVar i) (LE T K k) rSetL) D σ H := by
  obtain ⟨F, G, ρ, hK, r, ev⟩ := h
  subst hK
  simp only [evS] at ev
  refine ⟨F, G, ρ, rfl, r, evE_mono tm e (fun r1 ρ1 ev v1 G1 H1 g1 rl1 rr1 => ?_) ev⟩
  obtain ⟨G2, d, ρ2, g2, rl2, p, ⟨⟨x, hx⟩, ev⟩⟩ := keepR rl1 rr1 ev
  obtain ⟨a, h1, h2⟩ := rl2.ow i x hx
  refine ⟨.ref a, h1, F, G2, ρ2, rfl, rl2, evE_mono tm k (fun r2 ρ3 ev v3 G3 H3 g3 rl3 rr3 => ?_) ev⟩
  split at ev
  · rename_i xs n hxs
    obtain ⟨j, hj, ev⟩ := ev
    obtain ⟨a', q1, q2, q3, ws, q4, q5⟩ := rl3.ow i _ hxs
    rw [h1] at q1
    cases q1
    cases rr3
    refine ⟨a, ws, n, j, rfl, rfl, q4, by rw [q5.length]; exact hj, ?_⟩
    exact ev σ G3 _ (g1.trans (g2.trans g3)) (rl3.mut hxs h1 ⟨_, upd_same, q5.set j (p.mono g3)⟩)
  · exact ev.elim
theorem s_aug (tm : T.Mono) {i : Nat} {o : O2} {e : CE} {f : Int → Int → Int} (hf : (o = .add ∧ f = fun x y => x + y) ∨ (o = .sub ∧ f = fun x y => x - y)) (h : LS T K (.aug i o e) D σ H) : tAug i (LE T K e) (ipI f) D σ H := by
  obtain ⟨F, G, ρ, hK, r, ev⟩ := h
  subst hK
  simp only [evS] at ev
  obtain ⟨⟨d, hd⟩, ev⟩ := ev
  obtain ⟨v, h1, h2⟩ := r.fz i d hd
  refine ⟨v, h1, F, G, ρ, rfl, r, evE_mono tm e (fun r1 ρ1 ev v1 G1 H1 g1 rl1 rr1 => ?_) ev⟩
  split at ev
  · rename_i x y hx
    rw [hd] at hx
    cases hx
    cases h2
    cases rr1
    refine ⟨x, y, rfl, rfl, ?_⟩
    rcases hf with ⟨ho, hf⟩ | ⟨ho, hf⟩
    · subst ho hf
      exact ev _ G1 H1 g1 (rl1.put_fz (.int _))
    · subst ho hf
      exact ev _ G1 H1 g1 (rl1.put_fz (.int _))
  · exact ev.elim
theorem s_augS (tm : T.Mono) {i : Nat} {k e : CE} (h : LS T K (.augS i k e) D σ H) : tAugS (tVar i) (LE T K k) (LE T K e) (rIxL K) (ipI fun x y => x + y) rSetL D σ H := by
  obtain ⟨F, G, ρ, hK, r, ev⟩ := h
  subst hK
  simp only [evS] at ev
  obtain ⟨⟨x0, hx⟩, ev⟩ := ev
  obtain ⟨a, h1, h2⟩ := r.ow i _ hx
  refine ⟨.ref a, h1, F, G, ρ, rfl, r, evE_mono tm k (fun r1 ρ1 ev v1 G1 H1 g1 rl1 rr1 => ?_) ev⟩
  split at ev
  · rename_i xs n hxs
    obtain ⟨j, x, hj, hxj, ev⟩ := ev
    obtain ⟨a', q1, q2, q3, ws, q4, q5⟩ := rl1.ow i _ hxs
    rw [h1] at q1
    cases q1
    cases rr1
    obtain ⟨v, hv, rv⟩ := q5.get hxj
    cases rv
    have hat : atI ws n = some (.int x) := by
      unfold atI
      rw [q5.length, hj]
      exact hv
    refine ⟨a, ws, n, .int x, rfl, rfl, SqL.of q4, hat, F, G1, ρ1, rfl, rl1, evE_mono tm e (fun r2 ρ2 ev v2 G2 H2 g2 rl2 rr2 => ?_) ev⟩
    split at ev
    · rename_i ys y hys
      obtain ⟨hl, ev⟩ := ev
      obtain ⟨a', q1, q2, q3, ws2, q6, q7⟩ := rl2.ow i _ hys
      rw [h1] at q1
      cases q1
      cases rr2
      refine ⟨x, y, rfl, rfl, a, ws2, n, j, rfl, rfl, q6, by rw [q7.length, hl]; exact hj, ?_⟩
      exact ev σ G2 _ (g1.trans g2) (rl2.mut hys h1 ⟨_, upd_same, q7.set j (.int _)⟩)
    · exact ev.elim
  · exact ev.elim
theorem s_dset (tm : T.Mono) {i : Nat} {k e : CE} (h : LS T K (.dset i k e) D σ H) : tAsg (LE T K e) (gSub (tVar i) (LE T K k) (fun o i v H Q => rSetN T.W K o i v H Q ∨ rSetK o i v H Q)) D σ H := by
  obtain ⟨F, G, ρ, hK, r, ev⟩ := h
  subst hK
  simp only [evS] at ev
  refine ⟨F, G, ρ, rfl, r, evE_mono tm e (fun r1 ρ1 ev v1 G1 H1 g1 rl1 rr1 => ?_) ev⟩
  obtain ⟨G2, d, ρ2, g2, rl2, p, ⟨⟨x, hx⟩, ev⟩⟩ := keepR rl1 rr1 ev
  obtain ⟨a, h1, h2⟩ := rl2.ow i x hx
  refine ⟨.ref a, h1, F, G2, ρ2, rfl, rl2, evE_mono tm k (fun r2 ρ3 ev v3 G3 H3 g3 rl3 rr3 => ?_) ev⟩
  split at ev
  · rename_i W kvs ks hxs
    obtain ⟨rfl, hlen, n, hn, hd, ev⟩ := ev
    obtain ⟨a', q1, q2, q3, xs, q4, q5⟩ := rl3.ow i _ hxs
    rw [h1] at q1
    cases q1
    have rr3 : Rp F.K G3 v3 (.tup ks) := rr3
    cases rr3 with
    | tup t1 t2 =>
      have hl : xs.length = kvs.length := RpN.length q5
      refine .inl ⟨a, _, xs, kvs, _, n, rfl, rfl, q4, q5.mono rl3.sub, (Rp.tup t1 t2).mono rl3.sub, hn, hd, by omega, fun u ru => ?_⟩
      exact ev σ G3 _ (g1.trans (g2.trans g3)) (rl3.mut hxs h1 ⟨_, upd_same, rpN_put q5 (.tup t1 t2) hn hd ru (p.mono g3)⟩)
  · rename_i kvs x hxs
    obtain ⟨hlen, ev⟩ := ev
    obtain ⟨a', q1, q2, q3, xs, q4, q5⟩ := rl3.ow i _ hxs
    rw [h1] at q1
    cases q1
    have rr3 : Rp F.K G3 v3 (.str x) := rr3
    cases rr3
    refine .inr ⟨a, xs, .inr x, rfl, rfl, q4, by rw [q5.length]; exact hlen, ?_⟩
    exact ev σ G3 _ (g1.trans (g2.trans g3)) (rl3.mut hxs h1 ⟨_, upd_same, q5.put (.inr x) (p.mono g3)⟩)
  · exact ev.elim
theorem s_expr (tm : T.Mono) {e : CE} (h : LS T K (.expr e) D σ H) : tDrop (LE T K e) D σ H := by
  obtain ⟨F, G, ρ, hK, r, ev⟩ := h
  subst hK
  simp only [evS] at ev
  exact ⟨F, G, ρ, rfl, r, evE_mono tm e (fun r1 ρ1 ev v1 G1 H1 g1 rl1 rr1 => ev σ G1 H1 g1 rl1) ev⟩
theorem s_ret (tm : T.Mono) {e : CE} (h : LS T K (.ret e) D σ H) : tRet (LE T K e) D σ H := by
  obtain ⟨F, G, ρ, hK, r, ev⟩ := h
  subst hK
  simp only [evS] at ev
  exact ⟨F, G, ρ, rfl, r, evE_mono tm e (fun r1 ρ1 ev v1 G1 H1 g1 rl1 rr1 => ev σ v1 G1 H1 g1 rl1 rr1) ev⟩
theorem s_ite (tm : T.Mono) {c : CT} {a b : List CS} (h : LS T K (.ite c a b) D σ H) : tIfS (LT T K c) (LB T K a) (LB T K b) D σ H := by
  obtain ⟨F, G, ρ, hK, r, ev⟩ := h
  subst hK
  simp only [evS] at ev
  refine ⟨F, G, ρ, rfl, r, evT_mono tm c (fun k ρ1 ev G1 H1 g1 rl1 => ?_) ev⟩
  cases k with
  | true => exact ⟨F, G1, ρ1, rfl, rl1, evB_mono tm a (EnL.mono g1) ev⟩
  | false => exact ⟨F, G1, ρ1, rfl, rl1, evB_mono tm b (EnL.mono g1) ev⟩
theorem s_for (tm : T.Mono) {g : CG} {it : CI} {b : List CS} (h : LS T K (.for_ g it b) D σ H) : tFor (LI T K it) (LG K g) (LB T K b) D σ H := by
  obtain ⟨F, G, ρ, hK, r, ev⟩ := h
  subst hK
  simp only [evS] at ev
  refine ⟨F, G, ρ, rfl, r, evI_mono tm it (fun ds ρ1 ev J G1 H1 g1 rl1 wk => ?_) ev⟩
  generalize hst : (fun (d : DI.D) (ρ2 : Sta) (E2 : En) => asgG g d ρ2 fun ρ3 => evB T b ρ3 E2) = step at ev
  have hst' : ∀ d ρ2 E2, step d ρ2 E2 = asgG g d ρ2 fun ρ3 => evB T b ρ3 E2 := fun d ρ2 k => by rw [← hst]
  refine ⟨fun i m σ H => m = ds.length - i ∧ i ≤ ds.length ∧ ∃ G2 ρ2, Same G1 G2 ∧ Rl F G2 H σ ρ2 ∧ forD step (ds.drop i) ρ2 (EnL F G D), ⟨ds.length, by simp, Nat.zero_le _, G1, _, Same.refl _, rl1, ev⟩, ?_⟩
  rintro i m σ2 H2 ⟨rfl, hi, G2, ρ2, g2, rl2, fd⟩
  by_cases hlt : i < ds.length
  · rw [List.drop_eq_getElem_cons hlt] at fd
    have fd : step ds[i] ρ2 _ := fd
    rw [hst'] at fd
    refine .inr ⟨wk.goes i H2 hlt (g2.trans rl2.sub), fun σ' H' => ∃ G2 ρ2, Same G1 G2 ∧ Rl F G2 H' σ' ρ2 ∧ forD step (ds.drop (i + 1)) ρ2 (EnL F G D), fun σ' H' q => ⟨ds.length - (i + 1), by omega, rfl, hlt, q⟩, fun x H' y => ?_⟩
    obtain ⟨d, e1, e2⟩ := wk.yields i H2 x H' hlt (g2.trans rl2.sub) y
    rw [List.getElem?_eq_getElem hlt] at e1
    cases e1
    have e2' : (H' = H2 ∧ Rp F.K G2 x ds[i]) ∨ ∃ T vs es, x = .ref T ∧ H2 T = none ∧ H' = upd H2 T (.tup vs) ∧ ds[i] = .tup es ∧ RpA F.K G2 vs es := by
      rcases e2 with ⟨q1, q2⟩ | ⟨t, vs, es, q1, q2, q3, q4, q5⟩
      · exact .inl ⟨q1, q2.mono g2⟩
      · exact .inr ⟨t, vs, es, q1, q2, q3, q4, q5.mono g2⟩
    obtain ⟨G3, w3, p3⟩ := came (p := fun _ => True) rl2 e2'
    have rl3 := rl2.grow w3
    refine ⟨F, G3, ρ2, _, rfl, rl3, p3, asgG_mono (fun ρ3 fd σ3 hl hoff rl4 => ?_) fd⟩
    refine ⟨F, G3, ρ3, rfl, rl4, evB_mono tm b ?_ fd⟩
    have gg : Same G G3 := g1.trans (g2.trans w3.g)
    refine ⟨fun ρ4 q σ5 G5 H5 g5 rl5 => ⟨G5, ρ4, g2.trans (w3.g.trans g5), rl5, q⟩, fun r4 ρ4 q σ5 v5 G5 H5 g5 => q σ5 v5 G5 H5 (gg.trans g5), fun ρ4 q σ5 G5 H5 g5 => q σ5 G5 H5 (gg.trans g5), fun ρ4 q σ5 G5 H5 g5 rl5 => ⟨G5, ρ4, g2.trans (w3.g.trans g5), rl5, q⟩⟩
  · have ei : i = ds.length := by omega
    subst ei
    rw [List.drop_length] at fd
    exact .inl ⟨wk.stops H2 (g2.trans rl2.sub), fd σ2 G2 H2 (g1.trans g2) rl2⟩
theorem s_while (tm : T.Mono) {c : CT} {b : List CS} (h : LS T K (.while_ c b) D σ H) : tWhile (LT T K c) (LB T K b) D σ H := by
  obtain ⟨F, G, ρ, hK, r, ev⟩ := h
  subst hK
  simp only [evS] at ev
  obtain ⟨I, ⟨m0, h0⟩, hI⟩ := ev
  refine ⟨fun m σ H => ∃ G2 ρ2, Same G G2 ∧ Rl F G2 H σ ρ2 ∧ I m ρ2, ⟨m0, G, ρ, Same.refl G, r, h0⟩, ?_⟩
  rintro m σ2 H2 ⟨G2, ρ2, g2, rl2, hi⟩
  have ev := hI m ρ2 hi
  refine ⟨F, G2, ρ2, rfl, rl2, evT_mono tm c (fun k ρ3 ev G3 H3 g3 rl3 => ?_) ev⟩
  have gg : Same G G3 := g2.trans g3
  cases k with
  | true =>
    refine ⟨fun σ H => ∃ m', m' < m ∧ ∃ G2 ρ2, Same G G2 ∧ Rl F G2 H σ ρ2 ∧ I m' ρ2, fun σ' H' q => q, F, G3, ρ3, rfl, rl3, evB_mono tm b ?_ ev⟩
    exact ⟨fun ρ4 ⟨m', hm, q⟩ σ5 G5 H5 g5 rl5 => ⟨m', hm, G5, ρ4, gg.trans g5, rl5, q⟩, fun r4 ρ4 q σ5 v5 G5 H5 g5 => q σ5 v5 G5 H5 (gg.trans g5), fun ρ4 q σ5 G5 H5 g5 => q σ5 G5 H5 (gg.trans g5), fun ρ4 ⟨m', hm, q⟩ σ5 G5 H5 g5 rl5 => ⟨m', hm, G5, ρ4, gg.trans g5, rl5, q⟩⟩
  | false => exact ev σ2 G3 H3 gg rl3
end
end DI

set_option Elab.async false
set_option linter.all false
set_option autoImplicit false
set_option maxRecDepth 100000
set_option maxHeartbeats 2000000
/-! DI3h: statements that pass the check; defs. -/
namespace DI
open PySem PySem.Spec PyProof.Rows L2
def isCell (sc : Scope) (x : Str) : Bool := match sc.names.lookup x with
  | some .cell => true
  | _ => false
/-- name = value: no comprehension, or one whose store is its own, or a name that is a cell -/
def setOk (S : SC) (x : Str) (py : Pos) (v : Expr) : Bool := noComp v || (match v with
  | .ListComp _ _ scope pos => (isLoc S.sc x && (py.line == pos.line) && !(scope.names.any fun (n, k) => n == x && (k == .local || k == .cell))) || isCell S.sc x
  | _ => false)
def tupOk (S : SC) (ts : List Expr) (v : Expr) : Bool := noTup v || ts.any fun t => match t with
  | .Name x _ => !isLoc S.sc x
  | _ => false
def notK : CE → Bool
  | .compk _ _ _ _ _ => false
  | _ => true
mutual
def chkS (S : SC) : CS → Stmt → Bool
  | .asg g e, s => match s with
    | .Assign [.Name x py] v _ => chkG S g (.Name x py) && chkE S e v && setOk S x py v && notK e
    | .Assign [.Tuple ts k p] v _ => chkG S g (.Tuple ts k p) && chkE S e v && tupOk S ts v
    | _ => false
  | .par i j a b, s => match s with
    | .Assign [.Tuple [.Name x px, .Name y py] _ _] (.Tuple [u, v] _ _) _ => decide (S.N[i]? = some x) && decide (S.N[j]? = some y) && decide (i ≠ j) && decide (x ≠ y) && isLoc S.sc x && isLoc S.sc y && (py.line == px.line) && noStar u && noStar v &&
        !(foldedForSure 8 u && foldedForSure 8 v) && !(constantsAlone 8 u && constantsAlone 8 v) && chkE S a u && chkE S b v
    | _ => false
  | .sub i k e, s => match s with
    | .Assign [.Subscript (.Name x _) y _] v _ => nameIs S i x && chkE S k y && chkE S e v && noComp v && noSlice y
    | _ => false
  | .aug i o e, s => match s with
    | .AugAssign (.Name x _) op v _ => tgtIs S i x && isBin o op && (match o with
      | .add => true
      | .sub => true
      | _ => false) && chkE S e v
    | _ => false
  | .augS i k e, s => match s with
    | .AugAssign (.Subscript (.Name x _) y _) .Add v _ => nameIs S i x && chkE S k y && chkE S e v && noSlice y
    | _ => false
  | .dset i k e, s => match s with
    | .Assign [.Subscript (.Name x _) y _] v _ => nameIs S i x && chkE S k y && chkE S e v && noComp v && noSlice y
    | _ => false
  | .expr e, s => match s with
    | .Expr v _ => chkE S e v && noComp v
    | _ => false
  | .ret e, s => match s with
    | .Return (some v) _ => chkE S e v
    | _ => false
  | .ite c a b, s => match s with
    | .If t x y _ => chkT S c t && chkB S a x && chkB S b y
    | _ => false
  | .for_ g it b, s => match s with
    | .For tg iter body [] _ => chkG S g tg && chkI S it tg iter && chkB S b body && noSet iter
    | _ => false
  | .while_ c b, s => match s with
    | .While t body [] _ => chkT S c t && chkB S b body
    | _ => false
  | .brk, s => match s with
    | .Break _ => true
    | _ => false
  | .cont, s => match s with
    | .Continue _ => true
    | _ => false
  | .pass, s => match s with
    | .Pass _ => true
    | _ => false
  | .never, _ => true
def chkB (S : SC) : List CS → List Stmt → Bool
  | [], ss => ss.isEmpty
  | c :: cs, ss => match ss with
    | s :: ss => chkS S c s && chkB S cs ss
    | [] => false
end
section
variable {T : Tb} {X : Cx} {S : SC}
theorem isLoc_of {sc : Scope} {x : Str} (h : isLoc sc x = true) : sc.names.lookup x = some .local := by
  unfold isLoc at h
  split at h
  · assumption
  · cases h
theorem isCell_of {sc : Scope} {x : Str} (h : isCell sc x = true) : sc.names.lookup x = some .cell := by
  unfold isCell at h
  split at h
  · assumption
  · cases h
theorem sw_cell {elt : Expr} {gs : List Comprehension} {scope : Scope} {pos py : Pos} {y : Str} {l : Nat} {env : PySem.Env} (hy : env.scope.names.lookup y = some .cell) : swapsWith (.ListComp elt gs scope pos) (some (.Name y py)) l env = pure false := by
  have ky : env.kindOf y = some .cell := hy
  unfold swapsWith
  simp only [ky]
  have : ((some NameKind.cell : Option NameKind) == some NameKind.local) = false := by decide
  rw [this]
  simp
/-- x = value -/
theorem set_st (c : CxOk T X S) {g : CG} {e : CE} {x : Str} {py pos : Pos} {v : Expr} (h1 : chkG S g (.Name x py) = true) (h2 : chkE S e v = true) (h3 : setOk S x py v = true) (h4 : notK e = true) : PS X (.Assign [.Name x py] v pos) (LS T X.K (.asg g e)) := by
  cases g with
  | tup is => simp [chkG] at h1
  | name i =>
    simp only [chkG] at h1
    have h1' := h1
    unfold tgtIs at h1'
    simp only [Bool.and_eq_true, decide_eq_true_eq] at h1'
    obtain ⟨hi, hl⟩ := h1'
    obtain ⟨q1, q2⟩ := loc_of c hl
    have hN : X.N[i]? = some x := by rw [c.hN]; exact hi
    unfold setOk at h3
    rw [Bool.or_eq_true] at h3
    rcases h3 with h3 | h3
    · exact ps_imp (ps_set c.nd hN q1 (sE e c h2) (swap_of h3 _ _ _) q2) fun _ _ _ => s_asgN c.tm
    · split at h3
      · rw [Bool.or_eq_true] at h3
        rcases h3 with h3 | h3
        · simp only [Bool.and_eq_true, Bool.not_eq_true'] at h3
          obtain ⟨⟨p1, p2⟩, p3⟩ := h3
          have hlx : X.env.scope.names.lookup x = some .local := by rw [c.hsc]; exact isLoc_of p1
          cases e with
          | comp own g it t e' =>
            simp only [chkE] at h2
            split at h2
            · rename_i heq
              cases heq
              simp only [Bool.and_eq_true] at h2
              obtain ⟨⟨⟨⟨⟨⟨r1, r2⟩, r3⟩, r4⟩, r5⟩, r6⟩, r7⟩ := h2
              have hk := blkC_kind r1
              have q := ps_setLc (own := ownOf S.N own) (spos := pos) (wi := LI T X.K it) (g := LG X.K g) (tt := LC T X.K t) (te := LE T X.K e') c.good.calm c.nd hN hlx (sw_true (by rw [c.hsc]; exact c.kind) hlx p2 p3) (sI it c r2) (by rw [c.hN, c.hsc]; exact blkOk_by r1) (fun s H C cl fp => sG (c.blk hk s H C cl fp) r3) (fun s H C cl fp => sC t (c.blk hk s H C cl fp) r4) (fun s H C cl fp => sE e' (c.blk hk s H C cl fp) r5) (set_of r6 X.env)
              rw [ownOf_snd] at q
              exact ps_imp q fun _ _ _ z => i_comp c.tm r7 (s_asgN c.tm z)
            · cases h2
          | compk _ _ _ _ _ => cases h4
          | _ => simp [chkE] at h2
        · have hlx : X.env.scope.names.lookup x = some .cell := by rw [c.hsc]; exact isCell_of h3
          exact ps_imp (ps_set c.nd hN q1 (sE e c h2) (sw_cell hlx) q2) fun _ _ _ => s_asgN c.tm
      · cases h3
theorem sole_tup {ts : List Expr} {k : Nat} {p : Pos} {v : Expr} {l : Nat} {env : PySem.Env} : swapsWithSole [.Tuple ts k p] v l env = pure false := by
  show swapsWith v (some (.Tuple ts k p)) l env = pure false
  cases v <;> rfl
theorem stores_none {ts : List Expr} {k : Nat} {p : Pos} {v : Expr} {env : PySem.Env} (h : noTup v = true) : swappedStores [.Tuple ts k p] v env = pure none := by
  cases v <;> first | rfl | cases h
theorem tup_st (c : CxOk T X S) {g : CG} {e : CE} {ts : List Expr} {k : Nat} {p pos : Pos} {v : Expr} (h1 : chkG S g (.Tuple ts k p) = true) (h2 : chkE S e v = true) (h3 : tupOk S ts v = true) : PS X (.Assign [.Tuple ts k p] v pos) (LS T X.K (.asg g e)) := by
  have hw : swappedStores [.Tuple ts k p] v X.env = pure none := by
    unfold tupOk at h3
    rw [Bool.or_eq_true] at h3
    rcases h3 with h3 | h3
    · exact stores_none h3
    · rw [List.any_eq_true] at h3
      obtain ⟨t, m1, m2⟩ := h3
      cases v with
      | Tuple vs k2 p2 =>
        refine sw_none ⟨t, m1, fun x q e => ?_⟩
        subst e
        have m2 : (!isLoc S.sc x) = true := m2
        intro z
        have z : X.env.scope.names.lookup x = some .local := z
        rw [c.hsc] at z
        unfold isLoc at m2
        rw [z] at m2
        cases m2
      | _ => exact stores_none rfl
  cases g with
  | name i => simp [chkG] at h1
  | tup is => exact ps_imp (ps_asg (sE e c h2) (sG c h1) sole_tup hw rfl) fun _ _ _ => s_asgT c.tm
theorem sub_as {o i : Expr} {pos : Pos} {env : PySem.Env} (h : noSlice i = true) : ∀ v, assign (.Subscript o i pos) env v = (do
      let ov ← holding [v] (eval o env)
      let iv ← holding [v, ov] (eval i env)
      standAt pos
      holding [v, ov, iv] (setItem ov iv v)
      release [v, ov, iv] []) := by
  intro v
  cases i <;> first | rfl | cases h
theorem aug_st {i : Expr} (h : noSlice i = true) : ∀ ov iv new, augStore i ov iv new = (do holding [new, ov, iv] (setItem ov iv new); release [new, ov, iv] []; pure .next) := by
  intro ov iv new
  cases i <;> first | rfl | cases h
theorem sub_sw {o i v : Expr} {p : Pos} {l : Nat} {env : PySem.Env} (h : noComp v = true) : swapsWithSole [.Subscript o i p] v l env = pure false := by
  show swapsWith v (some (.Subscript o i p)) l env = pure false
  exact swap_of h _ _ _
end
mutual
theorem sS {T : Tb} : ∀ (c : CS) {X : Cx} {S : SC} {s : Stmt}, CxOk T X S → chkS S c s = true → PS X s (LS T X.K c)
  | .asg g e, X, S, s, k, h => by
    simp only [chkS] at h
    split at h
    · simp only [Bool.and_eq_true] at h
      exact set_st k h.1.1.1 h.1.1.2 h.1.2 h.2
    · simp only [Bool.and_eq_true] at h
      exact tup_st k h.1.1 h.1.2 h.2
    · cases h
  | .par i j a b, X, S, s, k, h => by
    simp only [chkS] at h
    split at h
    · simp only [Bool.and_eq_true, decide_eq_true_eq, Bool.not_eq_true'] at h
      obtain ⟨⟨⟨⟨⟨⟨⟨⟨⟨⟨⟨⟨h1, h2⟩, h3⟩, h4⟩, h5⟩, h6⟩, h7⟩, h8⟩, h9⟩, h10⟩, h11⟩, h12⟩, h13⟩ := h
      have hx := isLoc_of h5
      have hy := isLoc_of h6
      rw [← k.hsc] at hx hy
      refine ps_imp (ps_par k.good.calm k.nd (by rw [k.hN]; exact h1) (by rw [k.hN]; exact h2) h3 hx hy (pa_cons (sE a k h12) (pa_cons (sE b k h13) pa_nil (star_of h9)) (star_of h8)) (sw_some (by rw [k.hsc]; exact k.kind) hx hy h7 h4 h8 h9 h10 h11) sole_tup) fun _ _ _ => s_par k.tm
    · cases h
  | .sub i n e, X, S, s, k, h => by
    simp only [chkS] at h
    split at h
    · simp only [Bool.and_eq_true] at h
      obtain ⟨⟨⟨⟨h1, h2⟩, h3⟩, h4⟩, h5⟩ := h
      refine ps_imp (ps_asg (sE e k h3) (pg_sub (name_of k h1) (sE n k h2) set_list (sub_as h5)) (sub_sw h4) rfl rfl) fun _ _ _ => s_sub k.tm
    · cases h
  | .aug i o e, X, S, s, k, h => by
    simp only [chkS] at h
    split at h
    · simp only [Bool.and_eq_true] at h
      obtain ⟨⟨⟨h1, h2⟩, h3⟩, h4⟩ := h
      have h1' := h1
      unfold tgtIs at h1'
      simp only [Bool.and_eq_true, decide_eq_true_eq] at h1'
      obtain ⟨hi, hl⟩ := h1'
      obtain ⟨q1, q2⟩ := loc_of k hl
      rename_i x px op _ _ 
      have hN : X.N[i]? = some x := by rw [k.hN]; exact hi
      cases o with
      | add =>
        cases op <;> first | (cases h2; done) | skip
        exact ps_imp (ps_aug k.nd hN q1 (sE e k h4) ip_add q2) fun _ _ _ => s_aug k.tm (.inl ⟨rfl, rfl⟩)
      | sub =>
        cases op <;> first | (cases h2; done) | skip
        exact ps_imp (ps_aug k.nd hN q1 (sE e k h4) ip_sub q2) fun _ _ _ => s_aug k.tm (.inr ⟨rfl, rfl⟩)
      | _ => cases h3
    · cases h
  | .augS i n e, X, S, s, k, h => by
    simp only [chkS] at h
    split at h
    · simp only [Bool.and_eq_true] at h
      obtain ⟨⟨⟨h1, h2⟩, h3⟩, h4⟩ := h
      exact ps_imp (ps_augS (name_of k h1) (sE n k h2) get_list (sE e k h3) ip_add set_list (aug_st h4)) fun _ _ _ => s_augS k.tm
    · cases h
  | .dset i n e, X, S, s, k, h => by
    simp only [chkS] at h
    split at h
    · simp only [Bool.and_eq_true] at h
      obtain ⟨⟨⟨⟨h1, h2⟩, h3⟩, h4⟩, h5⟩ := h
      refine ps_imp (ps_asg (sE e k h3) (pg_sub (name_of k h1) (sE n k h2) (pset_or (set_dn k.good.units) (set_dK k.good.units)) (sub_as h5)) (sub_sw h4) rfl rfl) fun _ _ _ z => ?_
      have q := s_dset k.tm z
      rw [k.hW] at q
      exact q
    · cases h
  | .expr e, X, S, s, k, h => by
    simp only [chkS] at h
    split at h
    · simp only [Bool.and_eq_true] at h
      exact ps_imp (ps_expr (sE e k h.1) (swap_of h.2 _ _ _)) fun _ _ _ => s_expr k.tm
    · cases h
  | .ret e, X, S, s, k, h => by
    simp only [chkS] at h
    split at h
    · exact ps_imp (ps_ret (sE e k h)) fun _ _ _ => s_ret k.tm
    · cases h
  | .ite c a b, X, S, s, k, h => by
    simp only [chkS] at h
    split at h
    · simp only [Bool.and_eq_true] at h
      exact ps_imp (ps_if (sT c k h.1.1) (sB a k h.1.2) (sB b k h.2)) fun _ _ _ => s_ite k.tm
    · cases h
  | .for_ g it b, X, S, s, k, h => by
    simp only [chkS] at h
    split at h
    · simp only [Bool.and_eq_true] at h
      exact ps_imp (ps_for k.pass k.good.calm (sI it k h.1.1.2) (sG k h.1.1.1) (sB b k h.1.2) (set_of h.2 X.env)) fun _ _ _ => s_for k.tm
    · cases h
  | .while_ c b, X, S, s, k, h => by
    simp only [chkS] at h
    split at h
    · simp only [Bool.and_eq_true] at h
      exact ps_imp (ps_while k.pass (sT c k h.1) (sB b k h.2)) fun _ _ _ => s_while k.tm
    · cases h
  | .brk, X, S, s, k, h => by
    simp only [chkS] at h
    split at h
    · refine ps_imp ps_break fun _ _ _ ⟨F, G, ρ, hK, r, ev⟩ => ?_
      exact ev _ G _ (Same.refl G) r
    · cases h
  | .cont, X, S, s, k, h => by
    simp only [chkS] at h
    split at h
    · refine ps_imp ps_continue fun _ _ _ ⟨F, G, ρ, hK, r, ev⟩ => ?_
      exact ev _ G _ (Same.refl G) r
    · cases h
  | .pass, X, S, s, k, h => by
    simp only [chkS] at h
    split at h
    · refine ps_imp ps_pass fun _ _ _ ⟨F, G, ρ, hK, r, ev⟩ => ?_
      exact ev _ G _ (Same.refl G) r
    · cases h
  | .never, X, S, s, k, h => ps_imp ps_never fun _ _ _ ⟨F, G, ρ, hK, r, ev⟩ => ev
theorem sB {T : Tb} : ∀ (c : List CS) {X : Cx} {S : SC} {ss : List Stmt}, CxOk T X S → chkB S c ss = true → PSs X ss (LB T X.K c)
  | [], X, S, ss, k, h => by
    simp only [chkB, List.isEmpty_iff] at h
    subst h
    refine pss_imp pss_nil fun _ _ _ ⟨F, G, ρ, hK, r, ev⟩ => ?_
    exact ev _ G _ (Same.refl G) r
  | c :: cs, X, S, ss, k, h => by
    simp only [chkB] at h
    split at h
    · simp only [Bool.and_eq_true] at h
      refine pss_imp (pss_cons (sS c k h.1) (sB cs k h.2)) fun D σ H ⟨F, G, ρ, hK, r, ev⟩ => ?_
      simp only [evB] at ev
      refine ⟨F, G, ρ, hK, r, evS_mono k.tm c ?_ ev⟩
      refine ⟨fun ρ' q σ' G' H' g rl => ⟨F, G', ρ', hK, rl, evB_mono k.tm cs (EnL.mono g) q⟩, fun r ρ' q => q, fun ρ' q => q, fun ρ' q => q⟩
    · cases h
end
end DI

set_option Elab.async false
set_option linter.all false
set_option autoImplicit false
set_option maxRecDepth 100000
set_option maxHeartbeats 2000000
/-! DI4: a def by its body in the small language. -/
namespace DI
open PySem PySem.Spec PyProof.Rows L2
theorem fnG_of {P : Program} {w : World} {K : PySem.W.Frag} {mg : Str → Option Value} {base : Heap} {k : Nat} {f : Addr} {name qual : Str} {params : Arguments} {body : List Stmt} {scope : Scope} {dV kV doc pm cdv ct oc : Value} {an od : Option Addr} {osl : Array (Option Value)}
    {N ps : List Str} {sp : Sp} (lk : K.lookup f = some ⟨oc, od, .func (PySem.W.fnOf name qual params body scope dV kV doc pm an cdv ct), osl⟩) (hcd : PySem.W.codeIn K cdv qual = true) (Z : FnScope N ps scope) (len : ∀ vs H Q E, sp vs H Q E → vs.length = ps.length)
    (hb0 : ∀ (A : Around) (outer : List PySem.Env) (s : Shared) (H : Hp) (vs : List V) (Q : VK) (E : XK), A.guards = some [] → Room k (A.deeper (envOfC qual scope s.heap.objs.size f cdv)) → sp vs H Q E →
      ∃ t, PSs (cxOf CX0 P w K mg base N qual scope f cdv A outer s H E) body t ∧ t { nx := fun _ H' => Q .non H', rt := Q } (start N vs) H) :
    FnG P w K mg base (k + 1) f (PySem.W.fnOf name qual params body scope dV kV doc pm an cdv ct) ps sp := by
  constructor
  · exact len
  intro A outer s H args us vs Q E hg hr e0 hb rv hsp
  have back : ∀ b o, base.get? b = some o → s.heap.get? b = some o := fun b o e => (e0.bs b o e).1
  have KX : K.In s.heap := e0.mod.kin.keeps back
  have nolim : s.heap.NoLimit := e0.mod.nolimit.keeps back
  refine codeAny_call_function hr.depth (KX _ _ lk) rfl Z.co Z.gen rfl (PySem.W.codeRec_of KX hcd) (hb _ _ _ _ (wpAny_newFunctionEnv_cells Z.kind ?_ ?_))
  · rintro ⟨n, v⟩ hm
    exact (Z.par n (List.of_mem_zip hm).1).imp id fun q => ⟨q, PySem.W.cellsFrom_some _ _ _ (.inl q)⟩
  intro env he s1 x
  subst he
  refine ⟨nolim.keeps x.toInCall.keep, codeAny_func ?_⟩
  obtain ⟨t, ht, hq⟩ := hb0 A outer s H vs Q E hg (hr.deeper _) hsp
  have I := inv_start (CX := CX0) (E := E) Z hr.hd e0 (len _ _ _ _ hsp) rv x
  refine wpAny_mono (ht.run [] s1 _ H _ I hq) ?_ fun _ _ z => z
  intro fl s2 z
  cases fl with
  | next =>
    obtain ⟨σ2, H2, J, q⟩ := z
    exact ⟨.non, H2, J.os, J.bare, J.base, J.hok, rfl, q⟩
  | ret u =>
    obtain ⟨v, σ2, H2, J, r2, q⟩ := z
    exact ⟨v, H2, J.os, J.bare, J.base, J.hok, r2, q⟩
  | brk =>
    obtain ⟨_, _, _, q⟩ := z
    exact q.elim
  | cont =>
    obtain ⟨_, _, _, q⟩ := z
    exact q.elim

/-- where a def ends -/
def finE (β : Option Bag) (P : R → Prop) : En where
  nx := fun ρ => ρ.bag = β ∧ P (.fz .non)
  rt := fun r ρ => ρ.bag = β ∧ (match r with
    | .al i => (match ρ.sl[i]? with
      | some (.ow d) => P (.ow d)
      | _ => False)
    | .fz d => P (.fz d)
    | .ow d => P (.ow d))
  bk := fun _ => False
  ct := fun _ => False
/-- where it starts -/
def sta (n : Nat) (ds : List D) (β : Option Bag) : Sta := ⟨ds.map .fz ++ List.replicate (n - ds.length) .un, β⟩
theorem start_rl {K : PySem.W.Frag} {N : List Str} {G H : Hp} {β : Option Bag} {vs : List V} {ds : List D} (hs : Same G H) (hb : ∀ b, β = some b → BagOk K G H b) (ra : RpA K G vs ds) :
    Rl ⟨K, fun a => H a ≠ none ∧ G a = none ∧ nbag β a, H⟩ G H (start N vs) (sta N.length ds β) := by
  have hl := ra.length
  have at_ : ∀ (i : Nat) (m : M), (sta N.length ds β).sl[i]? = some m → (∃ d, ds[i]? = some d ∧ m = .fz d) ∨ m = .un := fun i m e => by
    have e : (ds.map M.fz ++ List.replicate (N.length - ds.length) M.un)[i]? = some m := e
    rw [List.getElem?_append] at e
    split at e
    · rw [List.getElem?_map] at e
      cases q : ds[i]? with
      | none => rw [q] at e; cases e
      | some d => rw [q] at e; cases e; exact .inl ⟨d, rfl, rfl⟩
    · rw [List.getElem?_replicate] at e
      split at e
      · cases e; exact .inr rfl
      · cases e
  refine ⟨hs, fun a h => ⟨h.2.1, rfl, h.1, h.2.2⟩, ?_, fun i d e => ?_, fun i d e => ?_, fun i j d e a q1 => ?_, hb, fun b i d h e => ?_⟩
  · show (vs.map some ++ List.replicate (N.length - vs.length) none).length = (ds.map M.fz ++ List.replicate (N.length - ds.length) M.un).length
    simp [hl]
  · rcases at_ i _ e with ⟨d', q1, q2⟩ | q
    · cases q2
      obtain ⟨v, q3, q4⟩ := ra.get q1
      refine ⟨v, ?_, q4⟩
      show (vs.map some ++ List.replicate (N.length - vs.length) none)[i]? = some (some v)
      rw [List.getElem?_append_left (by rw [List.length_map]; exact lt_of q3), List.getElem?_map, q3]
      rfl
    · cases q
  · rcases at_ i _ e with ⟨d', q1, q2⟩ | q
    · cases q2
    · cases q
  · rcases at_ i _ q1 with ⟨d', q1, q2⟩ | q
    · cases q2
    · cases q
  · rcases at_ i _ e with ⟨d', q1, q2⟩ | q
    · cases q2
    · cases q
theorem end_le {K : PySem.W.Frag} {G H : Hp} {β : Option Bag} {Q : VK} (hs : Same G H) (hb : ∀ b, β = some b → BagOk K G H b) : (finE β fun o => ∀ v G' H', Ok2 K β G H G' H' → RO K G' H' H v o → Q v H').Le (EnL ⟨K, fun a => H a ≠ none ∧ G a = none ∧ nbag β a, H⟩ G { nx := fun _ H' => Q .non H', rt := Q }) := by
  have ok : ∀ {σ' : L2.St} {ρ' : Sta} {G' H' : Hp}, ρ'.bag = β → Same G G' → Rl ⟨K, fun a => H a ≠ none ∧ G a = none ∧ nbag β a, H⟩ G' H' σ' ρ' → Ok2 K β G H G' H' := fun {σ' ρ' G' H'} e g r => by
    refine ⟨g, r.sub, fun a h n => ?_, fun b h => r.bg b (e.trans h)⟩
    by_cases q : nbag β a
    · obtain ⟨q1, q2, q3, q4⟩ := r.fr a ⟨h, n, q⟩
      exact ⟨q1, fun _ => q2⟩
    · refine ⟨?_, fun z => absurd z q⟩
      unfold nbag at q
      obtain ⟨b, hb, hne⟩ : ∃ b, β = some b ∧ b.1 = a := by
        cases hβ : β with
        | none => exact absurd (fun b z => by rw [hβ] at z; cases z) q
        | some b =>
          refine ⟨b, rfl, ?_⟩
          by_cases hba : b.1 = a
          · exact hba
          · exact absurd (fun b' z => by rw [hβ] at z; cases z; exact hba) q
      have := (r.bg b (e.trans hb)).1
      rw [hne] at this
      exact this
  have new : ∀ {σ' : L2.St} {ρ' : Sta} {G' H' : Hp} {a : Addr}, Same G G' → ¬ (H a ≠ none ∧ G a = none ∧ nbag β a) → G' a = none → nbag β a → H a = none := fun {σ' ρ' G' H' a} g np gn nb => by
    cases q : H a with
    | none => rfl
    | some o =>
      cases q2 : G a with
      | none => exact absurd ⟨by rw [q]; exact nofun, q2, nb⟩ np
      | some o2 => rw [g _ _ q2] at gn; cases gn
  refine ⟨?_, ?_, fun ρ h => h.elim, fun ρ h => h.elim⟩
  · rintro ρ ⟨e, h⟩ σ' G' H' g r
    exact h _ G' H' (ok e g r) .non
  · rintro r0 ρ ⟨e, h⟩ σ' v G' H' g r rr
    cases r0 with
    | fz d => exact h v G' H' (ok e g r) rr
    | ow d =>
      obtain ⟨a, rfl, n⟩ := rr
      exact h _ G' H' (ok e g r) ⟨a, rfl, new (σ' := σ') (ρ' := ρ) (H' := H') g n.np n.gn (e ▸ n.bg), n.gn, n.con⟩
    | al i =>
      simp only at h
      split at h
      · rename_i d hd
        obtain ⟨a, h1, h2, h3, h4⟩ := r.ow i d hd
        have hs2 : σ'[i]? = some (some v) := rr.2
        rw [h1] at hs2
        cases hs2
        exact h _ G' H' (ok e g r) ⟨a, rfl, new (σ' := σ') (ρ' := ρ) (H' := H') g h2 h3 (fun b hb z => r.bo b i d (e.trans hb) hd (by rw [z]; exact h1)), h3, h4⟩
      · exact h.elim

/-- the facts that all defs of a text share -/
structure TxtOk (mg : Str → Option Value) (base : Heap) : Prop where
  bfree : ∀ x ∈ bnames, mg x = none
  sys : ∃ o, base.get? sysModules = some o
def FnsOk (T : Tb) (P : Program) (w : World) (K : PySem.W.Frag) (mg : Str → Option Value) (base : Heap) (lv n : Nat) (fn : Nat → Str) : Prop :=
  ∀ k, k < n → ∃ (f : Addr) (fd : FuncData) (ps : List Str), mg (fn k) = some (.ref f) ∧ PySem.W.keepIn K (.ref f) = true ∧ Binds K fd ps [] ∧ FnG P w K mg base lv f fd ps (liftSp K (T.fn k))
def GlsOk (T : Tb) (K : PySem.W.Frag) (mg : Str → Option Value) (n : Nat) (gl : Nat → Str) : Prop := ∀ k, k < n → ∃ v u, mg (gl k) = some u ∧ RelV v u ∧ ∀ G, Rp K G v (T.gl k)
/-- the context of a def's body -/
theorem cx_ok {T : Tb} {P : Program} {w : World} {K : PySem.W.Frag} {mg : Str → Option Value} {base : Heap} {lv : Nat} {S : SC} {ps : List Str} {qual : Str} {f : Addr} {cdv : Value} {A : Around} {outer : List PySem.Env} {s : Shared} {H : Hp} {E : XK}
    (tm : T.Mono) (hW : T.W = (P, w)) (tx : TxtOk mg base) (Z : FnScope S.N ps S.sc) (hfm : S.fnm = fun _ => true) (hf : FnsOk T P w K mg base lv S.n S.fn) (hg : GlsOk T K mg S.ng S.gl) (gu : A.guards = some []) (hr : Room lv (A.deeper (envOfC qual S.sc s.heap.objs.size f cdv))) :
    CxOk T (cxOf CX0 P w K mg base S.N qual S.sc f cdv A outer s H E).nox S where
  good := ⟨rfl, gu, by have := hr.un; show (A.deeper _).units + 65 < cLine; omega, tx.sys⟩
  hW := hW
  hN := rfl
  hsc := rfl
  hfn := hfm.symm
  kind := Z.kind
  nd := Z.nd
  tm := tm
  bfree := tx.bfree
  fns := fun k hk => by
    obtain ⟨f', fd, ps', h1, h2, h3, h4⟩ := hf k hk
    exact ⟨f', fd, ps', lv, h1, h2, h3, hr, h4⟩
  gls := hg
  pass := PassesOwn.never
/-- THE RULE for a def over data -/
theorem defG {T : Tb} {P : Program} {w : World} {K : PySem.W.Frag} {mg : Str → Option Value} {base : Heap} {lv : Nat} {S : SC} {f : Addr} {name qual : Str} {params : Arguments} {body : List Stmt} {dV kV doc pm cdv ct oc : Value} {an od : Option Addr} {osl : Array (Option Value)}
    {ps : List Str} {sp : DSp} {c : List CS} (lk : K.lookup f = some ⟨oc, od, .func (PySem.W.fnOf name qual params body S.sc dV kV doc pm an cdv ct), osl⟩) (hcd : PySem.W.codeIn K cdv qual = true) (Z : FnScope S.N ps S.sc)
    (tm : T.Mono) (hW : T.W = (P, w)) (tx : TxtOk mg base) (hfm : S.fnm = fun _ => true) (hf : FnsOk T P w K mg base lv S.n S.fn) (hg : GlsOk T K mg S.ng S.gl) (hc : chkB S c body = true)
    (ar : ∀ β ds Q, sp β ds Q → ds.length = ps.length) (hb : ∀ β ds Q, sp β ds Q → evB T c (sta S.N.length ds β) (finE β Q)) :
    FnG P w K mg base (lv + 1) f (PySem.W.fnOf name qual params body S.sc dV kV doc pm an cdv ct) ps (liftSp K sp) := by
  refine fnG_of lk hcd Z (fun vs H Q E h => ?_) fun A outer s H vs Q E gu hr h => ?_
  · obtain ⟨G, β, ds, _, _, ra, h⟩ := h
    rw [ra.length]
    exact ar _ _ _ h
  · obtain ⟨G, β, ds, hs, hbg, ra, h⟩ := h
    have cx := cx_ok (E := E) (outer := outer) (H := H) tm hW tx Z hfm hf hg gu hr
    refine ⟨LB T K c, PSs.nox (sB c cx hc), ⟨_, G, _, rfl, start_rl hs hbg ra, evB_mono tm c (end_le hs hbg) (hb _ _ _ h)⟩⟩
end DI

set_option Elab.async false
set_option linter.all false
set_option autoImplicit false
set_option maxRecDepth 100000
set_option maxHeartbeats 2000000
/-! DI6: the end of a law whose defs are promised where no text is being shown. -/
namespace DI
open PySem PySem.Spec PyProof.Rows L2
def isDictAt (g : Addr → Option Obj) (a : Addr) : Bool := match g a with
  | some o => o.cls == .type "dict"
  | none => false
theorem isDictAt_of {g : Addr → Option Obj} {a : Addr} (h : isDictAt g a = true) : ∃ o, g a = some o ∧ o.cls = .type "dict" := by
  unfold isDictAt at h
  split at h
  · exact ⟨_, by assumption, by simpa using h⟩
  · cases h
def hookS (n : Nat) (fa : List He.Fa) (fn : List He.DefD) : PySem.W.Hook where
  α := He.AlD × Bool
  obs := fun s => (He.obsDG n fa fn s.heap.get?, isDictAt s.heap.get? sysModules)
  val := fun _ => (He.valD fn, true)
  says := fun _ h => (∃ K : PySem.W.Frag, K.In h ∧ He.SaysD fa fn K) ∧ ∃ o, h.get? sysModules = some o ∧ o.cls = .type "dict"
  of := fun w s e => ⟨(He.hookD n fa fn).of w s (congrArg Prod.fst e), isDictAt_of (congrArg Prod.snd e)⟩
  keeps := fun w h h' z k => by
    obtain ⟨z1, o, z2, z3⟩ := z
    exact ⟨(He.hookD n fa fn).keeps w h h' z1 k, o, k _ _ z2, z3⟩
/-- the law is called -/
theorem callLaw {P : Program} {w : World} {K : PySem.W.Frag} {mg mb : Str → Option Value} {k : Nat} {fa a : Addr} {fd : FuncData} {x : Str} {sp : Sp} {s₁ : Shared} {vs : List Value} {ns : List Int}
    (KX : K.In s₁.heap) (hns : s₁.heap.Ns mainGlobals mg) (hbn : s₁.heap.Ns builtinsNs mb) (hbb : ∀ x : Str, x ≠ "__name__" → mb x = bootBuiltins x) (hlim : s₁.heap.NoLimit) (hgn : s₁.gens = #[])
    (hsys : ∃ o, s₁.heap.get? sysModules = some o ∧ o.cls = .type "dict")
    (ha : s₁.heap.get? a = some { cls := .type "list", data := .seq vs.toArray }) (hi : IntsAre vs ns) (hl : ns.length ≤ sizeLine) (hr : Room k callerA)
    (F : ∀ base : Heap, K.In base → base.Ns mainGlobals mg → (∃ o, base.get? sysModules = some o) → FnG P w K mg base k fa fd [x] sp) (hbind : ∀ (s : Shared) (u : Value), BindsTo s fd ⟨[u], []⟩ [(x, u)])
    (hsp : ∀ H : Hp, Only H → SqL K H a (ns.map V.int) → sp [.ref a] H (fun v _ => v = .bl true) fun _ _ _ => False) :
    codeAny (model P w) callerA (.call (.ref fa) ⟨[.ref a], []⟩) (fun r s' => r = .ok (.ret (.bool true)) ∧ OldK s₁.heap s'.heap ∧ s'.os = s₁.os ∧ AllBare s'.gens) s₁ := by
  have rv := vals_ints hi
  have lenV := hi.length
  obtain ⟨osy, hsy, hsyc⟩ := hsys
  -- the heap of the entry: nothing is told, or the script alone
  suffices main : ∀ H : Hp, Only H → SqL K H a (ns.map V.int) → HOk P w H s₁.heap → (∀ b, b ≠ a → H b = none) → (H a ≠ none → K.lookup a = none) →
      codeAny (model P w) callerA (.call (.ref fa) ⟨[.ref a], []⟩) (fun r s' => r = .ok (.ret (.bool true)) ∧ OldK s₁.heap s'.heap ∧ s'.os = s₁.os ∧ AllBare s'.gens) s₁ by
    by_cases hk : K.lookup a = none
    · refine main (fun b => if b = a then some (.frz ⟨.type "list", none, .seq vs.toArray, #[]⟩ (.lst (ns.map V.int))) else none) (fun b => ?_) (.inl (.inr ⟨_, if_pos rfl⟩)) ?_ (fun b hb => if_neg hb) fun _ => hk
      · by_cases hb : b = a
        · exact .inr ⟨_, _, if_pos hb⟩
        · exact .inl (if_neg hb)
      · intro b u z
        by_cases hb : b = a
        · subst hb
          have z2 := (if_pos rfl).symm.trans z
          cases z2
          exact ⟨ha, by rw [List.length_map]; exact hl, vs, _, rv, ha⟩
        · have z2 := (if_neg hb).symm.trans z
          cases z2
    · obtain ⟨o, ho⟩ := Option.ne_none_iff_exists'.mp hk
      have e := KX a o ho
      rw [ha] at e
      cases e
      refine main (fun _ => none) (fun _ => .inl rfl) (.inr ⟨_, vs.toArray, _, ho, rfl, rfl, rfl, ?_, by simpa using rv⟩) (fun b u z => nomatch z) (fun _ _ => rfl) fun z => absurd rfl z
      rw [List.size_toArray, lenV]
      exact hl
  intro H hO hS hok hA hK
  have off : ∀ {b : Addr} {o : Obj}, s₁.heap.get? b = some o → o.cls = .type "dict" ∨ (∃ es ep, o.data = .dict es ep) → H b = none := fun {b o} e q => by
    apply hA
    rintro rfl
    rw [ha] at e
    cases e
    rcases q with q | ⟨es, ep, q⟩
    · have q : Value.type "list" = Value.type "dict" := q
      injection q with q
      exact absurd q (by decide)
    · cases q
  have lift : ∀ {b : Addr} {m : Str → Option Value}, s₁.heap.Ns b m → (hidT s₁.heap H).Ns b m := fun {b m} h => by
    obtain ⟨o, es, ep, e, d, q⟩ := h
    exact ⟨o, es, ep, hidT_get e (off e (.inr ⟨es, ep, d⟩)), d, q⟩
  have kb : K.In (hidT s₁.heap H) := fun b o e => hidT_get (KX b o e) (by
    by_cases hb : b = a
    · subst hb
      cases q : H b with
      | none => rfl
      | some u =>
        have := hK (by rw [q]; exact nofun)
        rw [this] at e
        cases e
    · exact hA b hb)
  obtain ⟨mc, l1, l2⟩ := hlim
  have md : Mod K mg (hidT s₁.heap H) := ⟨kb, lift hns, ⟨mb, lift hbn, hbb⟩, ⟨mc, lift l1, l2⟩⟩
  have e0 : Env0 P w K mg (hidT s₁.heap H) callerA [] s₁ H := ⟨rfl, md, fun b o e => of_hidT e, Nat.le_of_eq (hidT_size _ _), trivial, fun b hb => absurd hb List.not_mem_nil, hok, .of_eq hgn⟩
  have FF := F _ kb (lift hns) ⟨osy, hidT_get hsy (off hsy (.inl hsyc))⟩
  refine codeAny_mono (FF.run callerA [] s₁ H _ [.ref a] [.ref a] _ _ rfl hr e0 (hbind s₁ (.ref a)) (.cons rfl .nil) (hsp H hO hS)) ?_
  intro r s2 z
  rcases r with e | fl
  · exact z.elim
  cases fl with
  | next => exact z.elim
  | brk => exact z.elim
  | cont => exact z.elim
  | ret u =>
    obtain ⟨v, H2, os, bare, un, hok2, r2, q⟩ := z
    have q : v = .bl true := q
    subst q
    have r2 : u = Value.bool true := r2
    subst r2
    refine ⟨rfl, OldK.of_keep ?_, os, bare⟩
    intro b o e
    cases q : H b with
    | none => exact un.keep b o e q (fun z => absurd z List.not_mem_nil) List.not_mem_nil
    | some hu =>
      rcases hO b with z | ⟨ob, xs, z⟩
      · rw [q] at z
        cases z
      · have e1 := (hok b _ z).1
        have e2 := (hok2 b _ (un.frzs b ob _ z)).1
        rw [e] at e1
        cases e1
        exact e2
/-- from the law's promise to the row -/
theorem walkG {l : PySem.W.OpenLaw} {n k : Nat} {q : Program} {loose : List Str} {XP : (Str → Option Value) → Heap → Prop} {fas : List He.Fa} {fns : List He.DefD} {m : Nat} {d : DefRec} {x : Str}
    (hn : l.most = some n) (hn2 : n ≤ sizeLine) (hdf : d.params.defaults = []) (hr : Room k callerA)
    (F : ∀ (w : World) (mg : Str → Option Value) (fa : Addr) (h : Heap) (K : PySem.W.Frag), K.In h → He.SaysD fas fns K → h.Ns mainGlobals mg → mg d.name = some (.ref fa) →
      ∃ (fd : FuncData) (sp : Sp), (∀ (s : Shared) (u : Value), BindsTo s fd ⟨[u], []⟩ [(x, u)]) ∧
        (∀ (H : Hp) (a : Addr) (ns : List Int), ns.length ≤ n → SqL K H a (ns.map V.int) → sp [.ref a] H (fun v _ => v = .bl true) fun _ _ _ => False) ∧
        ∀ base : Heap, K.In base → base.Ns mainGlobals mg → (∃ o, base.get? sysModules = some o) → FnG l.prog w K mg base k fa fd [x] sp) :
    PySem.W.WalkO q loose XP (hookS m fas fns).says l.row.toRowW d [] (fun f vs => PySem.call f vs) := by
  refine Att.attach_call hn hdf ?_
  intro w s₀ s₁ mg mb fa o pm cd doc a vs ns G Y ho hd hcd hmg hobj hints hlen hgn
  obtain ⟨⟨K, KX, c⟩, hsys⟩ := Y
  obtain ⟨fd, sp, hb, hsp, hF⟩ := F w mg fa _ K KX c G.T.g hmg
  exact callLaw KX G.T.g G.T.b G.T.builtins G.T.nolimit hgn hsys hobj hints (Nat.le_trans hlen hn2) hr hF hb fun H _ hS => hsp H a ns hlen hS
end DI

set_option Elab.async false
set_option linter.all false
set_option autoImplicit false
set_option maxRecDepth 100000
set_option maxHeartbeats 2000000
/-! DI5: bodies that leave slot 0 where it is (the draws of a law change the bag that they are handed). -/
namespace DI
open PySem PySem.Spec PyProof.Rows L2
mutual
def chkP (S : SC) : CS → Stmt → Bool
  | .asg g e, s => match g, s with
    | .name i, .Assign [.Name x _] v _ => tgtIs S i x && chkE S e v && noComp v && (i != 0)
    | _, _ => false
  | .sub i k e, s => chkS S (.sub i k e) s
  | .augS i k e, s => chkS S (.augS i k e) s
  | .ret e, s => chkS S (.ret e) s
  | .ite c a b, s => match s with
    | .If t x y _ => chkT S c t && chkPB S a x && chkPB S b y
    | _ => false
  | _, _ => false
def chkPB (S : SC) : List CS → List Stmt → Bool
  | [], ss => ss.isEmpty
  | c :: cs, ss => match ss with
    | s :: ss => chkP S c s && chkPB S cs ss
    | [] => false
end
def EnP (F : Fr) (G : Hp) (a : Addr) (D : Ends) : En where
  nx := fun ρ' => ∀ σ' G' H', Same G G' → Rl F G' H' σ' ρ' → σ'[0]? = some (some (.ref a)) → D.nx σ' H'
  rt := fun r ρ' => ∀ σ' v G' H', Same G G' → Rl F G' H' σ' ρ' → σ'[0]? = some (some (.ref a)) → RR F G' H' σ' ρ' v r → D.rt v H'
  bk := fun _ => False
  ct := fun _ => False
def LSP (T : Tb) (K : PySem.W.Frag) (c : CS) : TS := fun D σ H => ∃ F G ρ a, F.K = K ∧ Rl F G H σ ρ ∧ σ[0]? = some (some (.ref a)) ∧ evS T c ρ (EnP F G a D)
def LBP (T : Tb) (K : PySem.W.Frag) (c : List CS) : TS := fun D σ H => ∃ F G ρ a, F.K = K ∧ Rl F G H σ ρ ∧ σ[0]? = some (some (.ref a)) ∧ evB T c ρ (EnP F G a D)
theorem EnP.mono {F : Fr} {G G' : Hp} {a : Addr} {D : Ends} (g : Same G G') : (EnP F G a D).Le (EnP F G' a D) :=
  ⟨fun ρ h σ' G2 H2 g2 => h σ' G2 H2 (g.trans g2), fun r ρ h σ' v G2 H2 g2 => h σ' v G2 H2 (g.trans g2), fun ρ h => h, fun ρ h => h⟩
section
variable {T : Tb} {K : PySem.W.Frag} {σ : L2.St} {H : Hp} {D : Ends}
theorem p_asgN (tm : T.Mono) {i : Nat} {e : CE} (hi : i ≠ 0) (h : LSP T K (.asg (.name i) e) D σ H) : tAsg (LE T K e) (gName i) D σ H := by
  obtain ⟨F, G, ρ, a0, hK, r, h0, ev⟩ := h
  subst hK
  simp only [evS] at ev
  have h0' : ∀ x, (σ.set i x)[0]? = some (some (.ref a0)) := fun x => by rw [List.getElem?_set_ne hi]; exact h0
  refine ⟨F, G, ρ, rfl, r, evE_mono tm e (fun r1 ρ1 ev v1 G1 H1 g1 rl1 rr1 => ?_) ev⟩
  cases r1 with
  | ow d =>
    obtain ⟨a, rfl, n⟩ := rr1
    exact ev _ G1 H1 g1 (rl1.put_ow n) (h0' _)
  | fz d => exact ev _ G1 H1 g1 (rl1.put_fz rr1) (h0' _)
  | al j =>
    obtain ⟨G2, d, ρ2, g2, rl2, p, ev⟩ := keepR rl1 rr1 ev
    exact ev _ G2 H1 (g1.trans g2) (rl2.put_fz p) (h0' _)
theorem p_sub (tm : T.Mono) {i : Nat} {k e : CE} (h : LSP T K (.sub i k e) D σ H) : tAsg (LE T K e) (gSub (tVar i) (LE T K k) rSetL) D σ H := by
  obtain ⟨F, G, ρ, a0, hK, r, h0, ev⟩ := h
  subst hK
  simp only [evS] at ev
  refine ⟨F, G, ρ, rfl, r, evE_mono tm e (fun r1 ρ1 ev v1 G1 H1 g1 rl1 rr1 => ?_) ev⟩
  obtain ⟨G2, d, ρ2, g2, rl2, p, ⟨⟨x, hx⟩, ev⟩⟩ := keepR rl1 rr1 ev
  obtain ⟨a, h1, h2⟩ := rl2.ow i x hx
  refine ⟨.ref a, h1, F, G2, ρ2, rfl, rl2, evE_mono tm k (fun r2 ρ3 ev v3 G3 H3 g3 rl3 rr3 => ?_) ev⟩
  split at ev
  · rename_i xs n hxs
    obtain ⟨j, hj, ev⟩ := ev
    obtain ⟨a', q1, q2, q3, ws, q4, q5⟩ := rl3.ow i _ hxs
    rw [h1] at q1
    cases q1
    cases rr3
    refine ⟨a, ws, n, j, rfl, rfl, q4, by rw [q5.length]; exact hj, ?_⟩
    exact ev σ G3 _ (g1.trans (g2.trans g3)) (rl3.mut hxs h1 ⟨_, upd_same, q5.set j (p.mono g3)⟩) h0
  · exact ev.elim
theorem p_augS (tm : T.Mono) {i : Nat} {k e : CE} (h : LSP T K (.augS i k e) D σ H) : tAugS (tVar i) (LE T K k) (LE T K e) (rIxL K) (ipI fun x y => x + y) rSetL D σ H := by
  obtain ⟨F, G, ρ, a0, hK, r, h0, ev⟩ := h
  subst hK
  simp only [evS] at ev
  obtain ⟨⟨x0, hx⟩, ev⟩ := ev
  obtain ⟨a, h1, h2⟩ := r.ow i _ hx
  refine ⟨.ref a, h1, F, G, ρ, rfl, r, evE_mono tm k (fun r1 ρ1 ev v1 G1 H1 g1 rl1 rr1 => ?_) ev⟩
  split at ev
  · rename_i xs n hxs
    obtain ⟨j, x, hj, hxj, ev⟩ := ev
    obtain ⟨a', q1, q2, q3, ws, q4, q5⟩ := rl1.ow i _ hxs
    rw [h1] at q1
    cases q1
    cases rr1
    obtain ⟨v, hv, rv⟩ := q5.get hxj
    cases rv
    have hat : atI ws n = some (.int x) := by
      unfold atI
      rw [q5.length, hj]
      exact hv
    refine ⟨a, ws, n, .int x, rfl, rfl, SqL.of q4, hat, F, G1, ρ1, rfl, rl1, evE_mono tm e (fun r2 ρ2 ev v2 G2 H2 g2 rl2 rr2 => ?_) ev⟩
    split at ev
    · rename_i ys y hys
      obtain ⟨hl, ev⟩ := ev
      obtain ⟨a', q1, q2, q3, ws2, q6, q7⟩ := rl2.ow i _ hys
      rw [h1] at q1
      cases q1
      cases rr2
      refine ⟨x, y, rfl, rfl, a, ws2, n, j, rfl, rfl, q6, by rw [q7.length, hl]; exact hj, ?_⟩
      exact ev σ G2 _ (g1.trans g2) (rl2.mut hys h1 ⟨_, upd_same, q7.set j (.int _)⟩) h0
    · exact ev.elim
  · exact ev.elim
theorem p_ret (tm : T.Mono) {e : CE} (h : LSP T K (.ret e) D σ H) : tRet (LE T K e) D σ H := by
  obtain ⟨F, G, ρ, a0, hK, r, h0, ev⟩ := h
  subst hK
  simp only [evS] at ev
  exact ⟨F, G, ρ, rfl, r, evE_mono tm e (fun r1 ρ1 ev v1 G1 H1 g1 rl1 rr1 => ev σ v1 G1 H1 g1 rl1 h0 rr1) ev⟩
theorem p_ite (tm : T.Mono) {c : CT} {a b : List CS} (h : LSP T K (.ite c a b) D σ H) : tIfS (LT T K c) (LBP T K a) (LBP T K b) D σ H := by
  obtain ⟨F, G, ρ, a0, hK, r, h0, ev⟩ := h
  subst hK
  simp only [evS] at ev
  refine ⟨F, G, ρ, rfl, r, evT_mono tm c (fun k ρ1 ev G1 H1 g1 rl1 => ?_) ev⟩
  cases k with
  | true => exact ⟨F, G1, ρ1, a0, rfl, rl1, h0, evB_mono tm a (EnP.mono g1) ev⟩
  | false => exact ⟨F, G1, ρ1, a0, rfl, rl1, h0, evB_mono tm b (EnP.mono g1) ev⟩
end
mutual
theorem sSP {T : Tb} : ∀ (c : CS) {X : Cx} {S : SC} {s : Stmt}, CxOk T X S → chkP S c s = true → PS X s (LSP T X.K c)
  | .asg g e, X, S, s, k, h => by
    simp only [chkP] at h
    split at h
    · simp only [Bool.and_eq_true, bne_iff_ne, ne_eq] at h
      obtain ⟨⟨⟨h1, h2⟩, h3⟩, h4⟩ := h
      unfold tgtIs at h1
      simp only [Bool.and_eq_true, decide_eq_true_eq] at h1
      obtain ⟨hi, hl⟩ := h1
      obtain ⟨q1, q2⟩ := loc_of k hl
      exact ps_imp (ps_set k.nd (by rw [k.hN]; exact hi) q1 (sE e k h2) (swap_of h3 _ _ _) q2) fun _ _ _ => p_asgN k.tm h4
    · cases h
  | .sub i n e, X, S, s, k, h => by
    simp only [chkP, chkS] at h
    split at h
    · simp only [Bool.and_eq_true] at h
      obtain ⟨⟨⟨⟨h1, h2⟩, h3⟩, h4⟩, h5⟩ := h
      exact ps_imp (ps_asg (sE e k h3) (pg_sub (name_of k h1) (sE n k h2) set_list (sub_as h5)) (sub_sw h4) rfl rfl) fun _ _ _ => p_sub k.tm
    · cases h
  | .augS i n e, X, S, s, k, h => by
    simp only [chkP, chkS] at h
    split at h
    · simp only [Bool.and_eq_true] at h
      obtain ⟨⟨⟨h1, h2⟩, h3⟩, h4⟩ := h
      exact ps_imp (ps_augS (name_of k h1) (sE n k h2) get_list (sE e k h3) ip_add set_list (aug_st h4)) fun _ _ _ => p_augS k.tm
    · cases h
  | .ret e, X, S, s, k, h => by
    simp only [chkP, chkS] at h
    split at h
    · exact ps_imp (ps_ret (sE e k h)) fun _ _ _ => p_ret k.tm
    · cases h
  | .ite c a b, X, S, s, k, h => by
    simp only [chkP] at h
    split at h
    · simp only [Bool.and_eq_true] at h
      exact ps_imp (ps_if (sT c k h.1.1) (sBP a k h.1.2) (sBP b k h.2)) fun _ _ _ => p_ite k.tm
    · cases h
  | .par _ _ _ _, _, _, _, _, h => by simp [chkP] at h
  | .aug _ _ _, _, _, _, _, h => by simp [chkP] at h
  | .dset _ _ _, _, _, _, _, h => by simp [chkP] at h
  | .expr _, _, _, _, _, h => by simp [chkP] at h
  | .for_ _ _ _, _, _, _, _, h => by simp [chkP] at h
  | .while_ _ _, _, _, _, _, h => by simp [chkP] at h
  | .brk, _, _, _, _, h => by simp [chkP] at h
  | .cont, _, _, _, _, h => by simp [chkP] at h
  | .pass, _, _, _, _, h => by simp [chkP] at h
  | .never, _, _, _, _, h => by simp [chkP] at h
theorem sBP {T : Tb} : ∀ (c : List CS) {X : Cx} {S : SC} {ss : List Stmt}, CxOk T X S → chkPB S c ss = true → PSs X ss (LBP T X.K c)
  | [], X, S, ss, k, h => by
    simp only [chkPB, List.isEmpty_iff] at h
    subst h
    refine pss_imp pss_nil fun _ _ _ ⟨F, G, ρ, a, hK, r, h0, ev⟩ => ?_
    exact ev _ G _ (Same.refl G) r h0
  | c :: cs, X, S, ss, k, h => by
    simp only [chkPB] at h
    split at h
    · simp only [Bool.and_eq_true] at h
      refine pss_imp (pss_cons (sSP c k h.1) (sBP cs k h.2)) fun D σ H ⟨F, G, ρ, a, hK, r, h0, ev⟩ => ?_
      simp only [evB] at ev
      refine ⟨F, G, ρ, a, hK, r, h0, evS_mono k.tm c ?_ ev⟩
      exact ⟨fun ρ' q σ' G' H' g rl h1 => ⟨F, G', ρ', a, hK, rl, h1, evB_mono k.tm cs (EnP.mono g) q⟩, fun r ρ' q => q, fun ρ' q => q, fun ρ' q => q⟩
    · cases h
end
end DI

set_option Elab.async false
set_option linter.all false
set_option autoImplicit false
set_option maxRecDepth 100000
set_option maxHeartbeats 400000
/-! DI5b: the draws of a law: _law_take, _law_bag. -/
namespace DI
open PySem PySem.Spec PyProof.Rows L2
def takeC : List CS := [.ite (.cmp .eq (.op2 .ix (.var 0) (.con (.int 0))) (.con (.int 0))) [.asg (.name 4) (.con (.int 0)), .ite (.cmp .lt (.op2 .ix (.var 0) (.con (.int 2))) (.bi .len (.cons (.op2 .ix (.var 0) (.con (.int 3))) .nil))) [.asg (.name 4) (.op2 .ix (.op2 .ix (.var 0) (.con (.int 3))) (.op2 .ix (.var 0) (.con (.int 2))))] [], .augS 0 (.con (.int 2)) (.con (.int 1)), .ite (.cmp .ge (.var 4) (.con (.int 1000000000000000000))) [.sub 0 (.con (.int 0)) (.var 4)] [], .asg (.name 5) (.op2 .add (.op2 .add (.op2 .mul (.op2 .ix (.var 0) (.con (.int 1))) (.con (.int 48271))) (.op2 .mod (.bi .int (.cons (.var 4) .nil)) (.con (.int 2147483647)))) (.op2 .mul (.con (.int 7919)) (.op2 .ix (.var 0) (.con (.int 2))))), .sub 0 (.con (.int 1)) (.op2 .mod (.bi .int (.cons (.var 5) .nil)) (.con (.int 2147483647)))] [], .ite (.cmp .gt (.op2 .ix (.var 0) (.con (.int 0))) (.con (.int 0))) [.asg (.name 6) (.op2 .mod (.bi .int (.cons (.op2 .ix (.var 0) (.con (.int 0))) .nil)) (.var 1)), .sub 0 (.con (.int 0)) (.op2 .fdiv (.op2 .ix (.var 0) (.con (.int 0))) (.var 1)), .ret (.var 6)] [], .asg (.name 2) (.op2 .mod (.bi .int (.cons (.op2 .mul (.op2 .add (.op2 .ix (.var 0) (.con (.int 1))) (.con (.int 1))) (.con (.int 39373))) .nil)) (.con (.int 1000000007))), .asg (.name 3) (.op2 .mod (.bi .int (.cons (.op2 .mul (.op2 .mod (.bi .int (.cons (.op2 .mul (.var 2) (.var 2)) .nil)) (.con (.int 998244353))) (.con (.int 30011))) .nil)) (.con (.int 998244353))), .ret (.op2 .mod (.bi .int (.cons (.op2 .fdiv (.var 3) (.con (.int 7))) .nil)) (.var 1))]
def bagC : List CS := [.ret (.lst (.cons (.con (.int 0)) (.cons (.con (.int 1234567891)) (.cons (.con (.int 0)) (.cons (.comp [1] (.name 1) (.seq (.slc (.var 0) .none (.some (.con (.int 63))))) .none (.bi .abs (.cons (.var 1) .nil))) .nil)))))]
/-- the bag's four cells -/
def BagD (cs : Addr) (ns : List Int) (d : D) : Prop := ∃ x m c : Int, d = .lst [.int x, .int m, .int c, .scr cs ns] ∧ 0 ≤ x ∧ 0 ≤ m ∧ m < 2147483647 ∧ 0 ≤ c
def takeE (cs : Addr) (ns : List Int) (n : Int) : En where
  nx := fun _ => False
  rt := fun r ρ => ∃ i d, r = .fz (.int i) ∧ 0 ≤ i ∧ i < n ∧ ρ.sl[0]? = some (.ow d) ∧ BagD cs ns d
  bk := fun _ => False
  ct := fun _ => False
abbrev bst (cs : Addr) (ns : List Int) (n x m c : Int) (s2 s3 s4 s5 s6 : M) : Sta := ⟨[.ow (.lst [.int x, .int m, .int c, .scr cs ns]), .fz (.int n), s2, s3, s4, s5, s6], none⟩
section
variable {T : Tb} {E : En} {cs : Addr} {ns : List Int} {n x m c : Int} {s2 s3 s4 s5 s6 : M}
theorem eqD_int {i j : Int} : eqD (.int i) (.int j) = decide (i = j) := by
  unfold eqD
  rw [D.py, D.py, PyData.eqv]
  exact (Bool.beq_eq_decide_eq i j)
theorem bx0 {Q : R → Sta → Prop} : evE T (.op2 .ix (.var 0) (.con (.int 0))) (bst cs ns n x m c s2 s3 s4 s5 s6) Q = Q (.fz (.int x)) (bst cs ns n x m c s2 s3 s4 s5 s6) := by
  simp only [evE, rd, sem2]
  exact propext ⟨fun ⟨d, e, q⟩ => by cases e; exact q, fun q => ⟨_, rfl, q⟩⟩
theorem bx1 {Q : R → Sta → Prop} : evE T (.op2 .ix (.var 0) (.con (.int 1))) (bst cs ns n x m c s2 s3 s4 s5 s6) Q = Q (.fz (.int m)) (bst cs ns n x m c s2 s3 s4 s5 s6) := by
  simp only [evE, rd, sem2]
  exact propext ⟨fun ⟨d, e, q⟩ => by cases e; exact q, fun q => ⟨_, rfl, q⟩⟩
theorem bx2 {Q : R → Sta → Prop} : evE T (.op2 .ix (.var 0) (.con (.int 2))) (bst cs ns n x m c s2 s3 s4 s5 s6) Q = Q (.fz (.int c)) (bst cs ns n x m c s2 s3 s4 s5 s6) := by
  simp only [evE, rd, sem2]
  exact propext ⟨fun ⟨d, e, q⟩ => by cases e; exact q, fun q => ⟨_, rfl, q⟩⟩
theorem bx3 {Q : R → Sta → Prop} : evE T (.op2 .ix (.var 0) (.con (.int 3))) (bst cs ns n x m c s2 s3 s4 s5 s6) Q = Q (.fz (.scr cs ns)) (bst cs ns n x m c s2 s3 s4 s5 s6) := by
  simp only [evE, rd, sem2]
  exact propext ⟨fun ⟨d, e, q⟩ => by cases e; exact q, fun q => ⟨_, rfl, q⟩⟩
theorem cmul_small {i j : Int} (h1 : 0 ≤ j) (h2 : j < 2147483648) : CMul i j := .inr ⟨by omega, by omega⟩
theorem cmul_left {i j : Int} (h1 : 0 ≤ i) (h2 : i < 2147483648) : CMul i j := .inl ⟨by omega, by omega⟩

theorem take_end (h0 : 0 < n) (h1 : n < 1073741824) (hx : 0 ≤ x) (hm : 0 ≤ m) (hm2 : m < 2147483647) (hc : 0 ≤ c) : evB T (takeC.drop 2) (bst cs ns n x m c s2 s3 s4 s5 s6) (takeE cs ns n) := by
  refine Exists.intro _ (And.intro rfl ?_)
  refine And.intro (cmul_small (by omega) (by omega)) ?_
  refine And.intro (by omega : (0:Int) < 1000000007) ?_
  show evB T [_, _] (bst cs ns n x m c (.fz (.int ((m + 1) * 39373 % 1000000007))) s3 s4 s5 s6) _
  generalize hb : (m + 1) * 39373 % 1000000007 = b
  have hb1 : 0 ≤ b := by omega
  have hb2 : b < 1000000007 := by omega
  refine And.intro (cmul_small hb1 (by omega)) ?_
  refine And.intro (by omega : (0:Int) < 998244353) ?_
  refine And.intro (cmul_small (by omega) (by omega)) ?_
  refine And.intro (by omega : (0:Int) < 998244353) ?_
  show evB T [_] (bst cs ns n x m c (.fz (.int b)) (.fz (.int (b * b % 998244353 * 30011 % 998244353))) s4 s5 s6) _
  generalize b * b % 998244353 * 30011 % 998244353 = d
  refine And.intro ⟨by omega, by omega⟩ ?_
  refine And.intro h0 ?_
  exact ⟨_, _, rfl, Int.emod_nonneg _ (by omega), Int.emod_lt_of_pos _ h0, rfl, x, m, c, rfl, hx, hm, hm2, hc⟩

theorem take_mid (h0 : 0 < n) (h1 : n < 1073741824) (hx : 0 ≤ x) (hm : 0 ≤ m) (hm2 : m < 2147483647) (hc : 0 ≤ c) : evB T (takeC.drop 1) (bst cs ns n x m c s2 s3 s4 s5 s6) (takeE cs ns n) := by
  refine Exists.intro _ (And.intro rfl ?_)
  show (if decide (0 < x) = true then evB T [_, _, _] _ _ else evB T [] _ _)
  by_cases hp : 0 < x
  · rw [if_pos (decide_eq_true hp)]
    refine Exists.intro _ (And.intro rfl ?_)
    refine And.intro h0 ?_
    show evB T [_, _] (bst cs ns n x m c s2 s3 s4 s5 (.fz (.int (x % n)))) _
    refine Exists.intro _ (And.intro rfl ?_)
    refine And.intro ⟨h0, h1⟩ ?_
    refine And.intro ⟨_, rfl⟩ ?_
    refine Exists.intro 0 (And.intro rfl ?_)
    show evB T [_] (bst cs ns n (x / n) m c s2 s3 s4 s5 (.fz (.int (x % n)))) _
    exact ⟨_, _, rfl, Int.emod_nonneg _ (by omega), Int.emod_lt_of_pos _ h0, rfl, _, m, c, rfl, Int.ediv_nonneg hx (by omega), hm, hm2, hc⟩
  · rw [if_neg (by simp [hp])]
    exact take_end h0 h1 hx hm hm2 hc
def takeF : List CS := [.asg (.name 5) (.op2 .add (.op2 .add (.op2 .mul (.op2 .ix (.var 0) (.con (.int 1))) (.con (.int 48271))) (.op2 .mod (.bi .int (.cons (.var 4) .nil)) (.con (.int 2147483647)))) (.op2 .mul (.con (.int 7919)) (.op2 .ix (.var 0) (.con (.int 2))))), .sub 0 (.con (.int 1)) (.op2 .mod (.bi .int (.cons (.var 5) .nil)) (.con (.int 2147483647)))]
def takeM : List CS := .augS 0 (.con (.int 2)) (.con (.int 1)) :: .ite (.cmp .ge (.var 4) (.con (.int 1000000000000000000))) [.sub 0 (.con (.int 0)) (.var 4)] [] :: takeF
theorem take_fin {k : Int} (h0 : 0 < n) (h1 : n < 1073741824) (hx : 0 ≤ x) (hm : 0 ≤ m) (hm2 : m < 2147483647) (hc : 0 ≤ c) (hk : 0 ≤ k) :
    evB T takeF (bst cs ns n x m (c + 1) s2 s3 (.fz (.int k)) s5 s6) { takeE cs ns n with nx := fun ρ1 => evB T (takeC.drop 1) ρ1 (takeE cs ns n) } := by
  refine Exists.intro _ (And.intro rfl ?_)
  refine And.intro (cmul_small (by omega) (by omega)) ?_
  refine And.intro (by omega : (0:Int) < 2147483647) ?_
  refine Exists.intro _ (And.intro rfl ?_)
  refine And.intro (cmul_left (by omega) (by omega)) ?_
  show evB T [_] (bst cs ns n x m (c + 1) s2 s3 (.fz (.int k)) (.fz (.int (m * 48271 + k % 2147483647 + 7919 * (c + 1)))) s6) _
  generalize m * 48271 + k % 2147483647 + 7919 * (c + 1) = y
  refine And.intro (by omega : (0:Int) < 2147483647) ?_
  refine And.intro ⟨_, rfl⟩ ?_
  refine Exists.intro 1 (And.intro rfl ?_)
  show evB T [] (bst cs ns n x (y % 2147483647) (c + 1) s2 s3 (.fz (.int k)) (.fz (.int y)) s6) _
  exact take_mid h0 h1 hx (by omega) (by omega) (by omega)
theorem take_midd {k : Int} (h0 : 0 < n) (h1 : n < 1073741824) (hx : 0 ≤ x) (hm : 0 ≤ m) (hm2 : m < 2147483647) (hc : 0 ≤ c) (hk : 0 ≤ k) :
    evB T takeM (bst cs ns n x m c s2 s3 (.fz (.int k)) s5 s6) { takeE cs ns n with nx := fun ρ1 => evB T (takeC.drop 1) ρ1 (takeE cs ns n) } := by
  refine And.intro ⟨_, rfl⟩ ?_
  refine Exists.intro 2 (Exists.intro c (And.intro rfl (And.intro rfl ?_)))
  refine And.intro rfl ?_
  show (if decide (1000000000000000000 ≤ k) = true then evB T [_] (bst cs ns n x m (c + 1) s2 s3 (.fz (.int k)) s5 s6) _ else evB T [] (bst cs ns n x m (c + 1) s2 s3 (.fz (.int k)) s5 s6) _)
  generalize decide (1000000000000000000 ≤ k) = big
  cases big with
  | true =>
    rw [if_pos rfl]
    refine And.intro ⟨_, rfl⟩ ?_
    refine Exists.intro 0 (And.intro rfl ?_)
    show evB T takeF (bst cs ns n k m (c + 1) s2 s3 (.fz (.int k)) s5 s6) _
    exact take_fin h0 h1 hk hm hm2 hc hk
  | false =>
    rw [if_neg (by decide)]
    exact take_fin h0 h1 hx hm hm2 hc hk
theorem take_ev (hns : ∀ k ∈ ns, 0 ≤ k) (h0 : 0 < n) (h1 : n < 1073741824) (hx : 0 ≤ x) (hm : 0 ≤ m) (hm2 : m < 2147483647) (hc : 0 ≤ c) : evB T takeC (bst cs ns n x m c s2 s3 s4 s5 s6) (takeE cs ns n) := by
  refine Exists.intro _ (And.intro rfl ?_)
  refine And.intro (.inl ⟨rfl, rfl⟩) ?_
  show (if eqD (.int x) (.int 0) = true then evB T (_ :: _ :: takeM) _ _ else evB T [] _ _)
  rw [eqD_int]
  by_cases hz : x = 0
  case neg =>
    rw [if_neg (by simp [hz])]
    exact take_mid h0 h1 hx hm hm2 hc
  rw [if_pos (by simp [hz])]
  refine Exists.intro _ (And.intro rfl ?_)
  refine Exists.intro _ (And.intro rfl ?_)
  show (if decide (c < (ns.length : Int)) = true then evB T [_] (bst cs ns n x m c s2 s3 (.fz (.int 0)) s5 s6) _ else evB T [] (bst cs ns n x m c s2 s3 (.fz (.int 0)) s5 s6) _)
  by_cases hl : c < (ns.length : Int)
  · rw [if_pos (decide_eq_true hl)]
    refine Exists.intro _ (And.intro rfl ?_)
    refine Exists.intro _ (And.intro rfl ?_)
    obtain ⟨j, rfl⟩ := Int.eq_ofNat_of_zero_le hc
    have hj : j < ns.length := by omega
    refine Exists.intro ns[j] (And.intro ?_ ?_)
    · unfold atI ixN
      rw [if_pos (by omega), if_pos hl]
      simp [hj]
    · show evB T takeM (bst cs ns n x m j s2 s3 (.fz (.int ns[j])) s5 s6) _
      exact take_midd h0 h1 hx hm hm2 hc (hns _ (List.getElem_mem hj))
  · rw [if_neg (by simp [hl])]
    exact take_midd h0 h1 hx hm hm2 hc (Int.le_refl 0)

end
end DI

set_option Elab.async false
set_option linter.all false
set_option autoImplicit false
set_option maxRecDepth 100000
set_option maxHeartbeats 1000000
/-! DI5c: the promises of _law_take and _law_bag; a law whose first statement makes its bag. -/
namespace DI
open PySem PySem.Spec PyProof.Rows L2
def takeSp : DSp := fun β ds Q => ∃ b n, β = some b ∧ ds = [.opq (.ref b.1), .int n] ∧ 0 < n ∧ n < 1073741824 ∧ ∀ r, 0 ≤ r → r < n → Q (.fz (.int r))
theorem rp4 {K : PySem.W.Frag} {G : Hp} {vs : List V} {x m c : Int} {cs : Addr} {ns : List Int} (h : RpA K G vs [.int x, .int m, .int c, .scr cs ns]) : vs = [.int x, .int m, .int c, .ref cs] := by
  cases h with
  | cons h1 h => cases h with
    | cons h2 h => cases h with
      | cons h3 h => cases h with
        | cons h4 h =>
          cases h
          cases h1
          cases h2
          cases h3
          cases h4
          rfl
theorem rp4l {K : PySem.W.Frag} {G : Hp} {vs : List V} {x m c : Int} {ns : List Int} (h : RpA K G vs [.int x, .int m, .int c, .lst (ns.map D.int)]) : ∃ cs, vs = [.int x, .int m, .int c, .ref cs] ∧ G cs = some (.lst (ns.map V.int)) := by
  cases h with
  | cons h1 h => cases h with
    | cons h2 h => cases h with
      | cons h3 h => cases h with
        | cons h4 h =>
          cases h
          cases h1
          cases h2
          cases h3
          cases h4 with
          | lst e r => exact ⟨_, rfl, by rw [e, r.int_of]⟩
theorem take_start {K : PySem.W.Frag} {G H : Hp} {b : Bag} {x m c n : Int} {ns : List Int} {N : List Str} (hN : N.length = 7) (hs : Same G H) (hg : G b.1 = none) (e1 : H b.1 = some (.lst [.int x, .int m, .int c, .ref b.2])) (e2 : G b.2 = some (.lst (ns.map V.int))) :
    Rl ⟨K, fun a => H a ≠ none ∧ G a = none ∧ a ≠ b.1, H⟩ G H (start N [.ref b.1, .int n]) (bst b.2 ns n x m c .un .un .un .un .un) := by
  have est : start N [.ref b.1, .int n] = [some (.ref b.1), some (.int n), none, none, none, none, none] := by
    show [V.ref b.1, V.int n].map some ++ List.replicate (N.length - 2) none = _
    rw [hN]
    rfl
  rw [est]
  have z : ∀ (i : Nat) (q : M), (bst b.2 ns n x m c .un .un .un .un .un).sl[i]? = some q → (i = 0 ∧ q = .ow (.lst [.int x, .int m, .int c, .scr b.2 ns])) ∨ (i = 1 ∧ q = .fz (.int n)) ∨ q = .un := fun i q e => by
    rcases i with _ | _ | _ | _ | _ | _ | _ | i
    · cases e; exact .inl ⟨rfl, rfl⟩
    · cases e; exact .inr (.inl ⟨rfl, rfl⟩)
    · cases e; exact .inr (.inr rfl)
    · cases e; exact .inr (.inr rfl)
    · cases e; exact .inr (.inr rfl)
    · cases e; exact .inr (.inr rfl)
    · cases e; exact .inr (.inr rfl)
    · cases e
  refine ⟨hs, fun a h => ⟨h.2.1, rfl, h.1, (fun b' q => nomatch q)⟩, rfl, fun i d e => ?_, fun i d e => ?_, fun i j d e a q1 q2 _ _ => ?_, (fun b' q => nomatch q), (fun b' i d q => nomatch q)⟩
  · rcases z i _ e with ⟨_, q⟩ | ⟨rfl, q⟩ | q
    · cases q
    · cases q; exact ⟨_, rfl, .int n⟩
    · cases q
  · rcases z i _ e with ⟨rfl, q⟩ | ⟨rfl, q⟩ | q
    · cases q
      exact ⟨b.1, rfl, fun h => h.2.2 rfl, hg, _, e1, .cons (.int x) (.cons (.int m) (.cons (.int c) (.cons (.scr (SqL.of e2)) .nil)))⟩
    · cases q
    · cases q
  · rcases z i _ q1 with ⟨rfl, q⟩ | ⟨rfl, q⟩ | q
    · rcases z j _ q2 with ⟨rfl, q⟩ | ⟨rfl, q⟩ | q
      · rfl
      · cases q
      · cases q
    · cases q
    · cases q
theorem take_le {K : PySem.W.Frag} {G H : Hp} {b : Bag} {n : Int} {ns : List Int} {Q : VK} (hns : ∀ k ∈ ns, 0 ≤ k) (e2 : G b.2 = some (.lst (ns.map V.int)))
    (hQ : ∀ r, 0 ≤ r → r < n → ∀ v G' H', Ok2 K (some b) G H G' H' → RO K G' H' H v (.fz (.int r)) → Q v H') :
    (takeE b.2 ns n).Le (EnP ⟨K, fun a => H a ≠ none ∧ G a = none ∧ a ≠ b.1, H⟩ G b.1 { nx := fun _ H' => Q .non H', rt := Q }) := by
  refine ⟨fun ρ h => h.elim, ?_, fun ρ h => h, fun ρ h => h⟩
  rintro r ρ ⟨i, d, rfl, h0, h1, hsl, x, m, c, rfl, hx, hm, hm2, hc⟩ σ' v G' H' g rl h2 rr
  obtain ⟨a', q1, q2, q3, vs, q4, q5⟩ := rl.ow 0 _ hsl
  rw [h2] at q1
  cases q1
  have ev := rp4 q5
  subst ev
  refine hQ i h0 h1 v G' H' ⟨g, rl.sub, fun a ha hn => ?_, fun b' hb => ?_⟩ rr
  · by_cases e : a = b.1
    · subst e
      exact ⟨q3, fun z => absurd rfl (z b rfl)⟩
    · obtain ⟨p1, p2, p3, p4⟩ := rl.fr a ⟨ha, hn, e⟩
      exact ⟨p1, fun _ => p2⟩
  · cases hb
    exact ⟨q3, x, m, c, ns, q4, g _ _ e2, hx, hm, hm2, hc, hns⟩
section
variable {T : Tb} {P : Program} {w : World} {K : PySem.W.Frag} {mg : Str → Option Value} {base : Heap} {lv : Nat} {S : SC} {f : Addr} {name qual : Str} {params : Arguments} {body : List Stmt} {dV kV doc pm cdv ct oc : Value} {an od : Option Addr} {osl : Array (Option Value)}
theorem takeG {p1 p2 : Str} (lk : K.lookup f = some ⟨oc, od, .func (PySem.W.fnOf name qual params body S.sc dV kV doc pm an cdv ct), osl⟩) (hcd : PySem.W.codeIn K cdv qual = true) (Z : FnScope S.N [p1, p2] S.sc) (hN : S.N.length = 7)
    (tm : T.Mono) (hW : T.W = (P, w)) (tx : TxtOk mg base) (hfm : S.fnm = fun _ => true) (hf : FnsOk T P w K mg base lv S.n S.fn) (hg : GlsOk T K mg S.ng S.gl) (hc : chkPB S takeC body = true) :
    FnG P w K mg base (lv + 1) f (PySem.W.fnOf name qual params body S.sc dV kV doc pm an cdv ct) [p1, p2] (liftSp K takeSp) := by
  refine fnG_of lk hcd Z (fun vs H Q E h => ?_) fun A outer s H vs Q E gu hr h => ?_
  · obtain ⟨G, β, ds, _, _, ra, b, n, _, rfl, _⟩ := h
    rw [ra.length]
    rfl
  · obtain ⟨G, β, ds, hs, hbg, ra, b, n, rfl, rfl, h0, h1, hQ⟩ := h
    obtain ⟨g0, x, m, c, ns, e1, e2, hx, hm, hm2, hcc, hns⟩ := hbg b rfl
    have ev : vs = [.ref b.1, .int n] := by
      cases ra with
      | cons r1 r2 => cases r2 with
        | cons r2 r3 => cases r3; cases r1; cases r2; rfl
    subst ev
    have cx := cx_ok (E := E) (outer := outer) (H := H) tm hW tx Z hfm hf hg gu hr
    exact ⟨LBP T K takeC, PSs.nox (sBP takeC cx hc), _, G, _, b.1, rfl, take_start hN hs g0 e1 e2, by
      show ([V.ref b.1, V.int n].map some ++ _)[0]? = _
      rfl, evB_mono tm takeC (take_le hns e2 hQ) (take_ev hns h0 h1 hx hm hm2 hcc)⟩
end
end DI

set_option Elab.async false
set_option linter.all false
set_option autoImplicit false
set_option maxRecDepth 100000
set_option maxHeartbeats 1000000
/-! DI5d: _law_bag; a law whose first statement makes its bag. -/
namespace DI
open PySem PySem.Spec PyProof.Rows L2
def bagSp : DSp := fun _ ds Q => ∃ (a : Addr) (ns : List Int), ds = [.scr a ns] ∧ ∀ ms : List Int, (∀ k ∈ ms, 0 ≤ k) → Q (.ow (.lst [.int 0, .int 1234567891, .int 0, .lst (ms.map D.int)]))
theorem bag_comp {T : Tb} {d0 : D} {β : Option Bag} {Q : List D → Sta → Prop} : ∀ (ms acc : List Int), acc.length + ms.length < 100 → (∀ k ∈ acc, 0 ≤ k) → (∀ zs : List Int, (∀ k ∈ zs, 0 ≤ k) → Q (zs.map D.int) ⟨[.fz d0, .un], β⟩) →
    compD (fun d ρ2 k => asgG (.name 1) d ρ2 fun ρ3 => evC T .none ρ3 fun b ρ4 => if b = true then evE T (.bi .abs (.cons (.var 1) .nil)) ρ4 fun r ρ5 => keep r ρ5 fun x ρ6 => k (some x) (wipes ρ6 [1]) else k none (wipes ρ4 [1]))
      (ms.map D.int) (acc.map D.int) ⟨[.fz d0, .un], β⟩ Q
  | [], acc, _, ha, q => q acc ha
  | n :: ms, acc, hl, ha, q => by
    refine And.intro (by rw [List.length_map, sizeLine_eq]; simp only [List.length_cons] at hl; omega) ?_
    have ih := bag_comp (T := T) (d0 := d0) (β := β) (Q := Q) ms (acc ++ [if n < 0 then -n else n]) (by simp only [List.length_append, List.length_cons, List.length_nil] at hl ⊢; omega) (fun k hk => by
      rcases List.mem_append.mp hk with h | h
      · exact ha k h
      · rw [List.mem_singleton.mp h]
        split <;> omega) q
    rw [List.map_append] at ih
    exact ih
theorem bag_ev {T : Tb} {a : Addr} {ns : List Int} {β : Option Bag} {Q : R → Prop} (h : ∀ ms : List Int, (∀ k ∈ ms, 0 ≤ k) → Q (.ow (.lst [.int 0, .int 1234567891, .int 0, .lst (ms.map D.int)]))) :
    evB T bagC ⟨[.fz (.scr a ns), .un], β⟩ (finE β Q) := by
  have hc : cutD (ns.map D.int) none (some 63) = ((ns.drop (HT.sIx ns.length 0 none)).take (HT.sIx ns.length ns.length (some 63) - HT.sIx ns.length 0 none)).map D.int := by
    unfold cutD
    rw [List.length_map, ← List.map_drop, ← List.map_take]
  have key := bag_comp (T := T) (d0 := .scr a ns) (β := β) (Q := fun acc ρ7 => evK T .nil (backs ⟨[.fz (.scr a ns), .un], β⟩ ρ7 [1]) fun ds ρ1 => ([D.int 0, .int 1234567891, .int 0, .lst acc] ++ ds).length ≤ sizeLine ∧ (finE β Q).rt (.ow (.lst ([D.int 0, .int 1234567891, .int 0, .lst acc] ++ ds))) ρ1)
    ((ns.drop (HT.sIx ns.length 0 none)).take (HT.sIx ns.length ns.length (some 63) - HT.sIx ns.length 0 none)) [] (by
      have : HT.sIx ns.length ns.length (some 63) ≤ 63 := by
        unfold HT.sIx
        simp only [Option.getD]
        split <;> omega
      simp only [List.length_nil, List.length_take]
      omega) (fun k hk => nomatch hk) (fun zs hz => ⟨by rw [sizeLine_eq]; exact (by decide : 4 ≤ 16777216), rfl, h zs hz⟩)
  rw [← hc] at key
  exact key
/-- where a law ends -/
def finT : En where
  nx := fun _ => False
  rt := fun r _ => r = .fz (.bl true)
  bk := fun _ => False
  ct := fun _ => False
def lawSt (n : Nat) (a : Addr) (ns : List Int) (b : Bag) : Sta := ⟨.fz (.scr a ns) :: .fz (.opq (.ref b.1)) :: List.replicate n .un, some b⟩
def lawSp (K : PySem.W.Frag) : Sp := fun vs H Q _ => ∃ (a : Addr) (ns : List Int), vs = [.ref a] ∧ SqL K H a (ns.map V.int) ∧ ∀ H', Q (.bl true) H'
section
variable {T : Tb} {P : Program} {w : World} {K : PySem.W.Frag} {mg : Str → Option Value} {base : Heap} {lv : Nat} {S : SC} {f : Addr} {name qual : Str} {params : Arguments} {body : List Stmt} {dV kV doc pm cdv ct oc : Value} {an od : Option Addr} {osl : Array (Option Value)}
theorem bagG {p1 : Str} (lk : K.lookup f = some ⟨oc, od, .func (PySem.W.fnOf name qual params body S.sc dV kV doc pm an cdv ct), osl⟩) (hcd : PySem.W.codeIn K cdv qual = true) (Z : FnScope S.N [p1] S.sc) (hN : S.N.length = 2)
    (tm : T.Mono) (hW : T.W = (P, w)) (tx : TxtOk mg base) (hfm : S.fnm = fun _ => true) (hf : FnsOk T P w K mg base lv S.n S.fn) (hg : GlsOk T K mg S.ng S.gl) (hc : chkB S bagC body = true) :
    FnG P w K mg base (lv + 1) f (PySem.W.fnOf name qual params body S.sc dV kV doc pm an cdv ct) [p1] (liftSp K bagSp) := by
  refine defG lk hcd Z tm hW tx hfm hf hg hc (fun β ds Q h => ?_) fun β ds Q h => ?_
  · obtain ⟨a, ns, rfl, _⟩ := h
    rfl
  · obtain ⟨a, ns, rfl, h⟩ := h
    rw [hN]
    exact bag_ev h
/-- the rule for a law -/
theorem lawG {p1 : Str} {st : Stmt} {rest : List Stmt} {kb n : Nat} {c : List CS} (lk : K.lookup f = some ⟨oc, od, .func (PySem.W.fnOf name qual params body S.sc dV kV doc pm an cdv ct), osl⟩) (hcd : PySem.W.codeIn K cdv qual = true) (Z : FnScope S.N [p1] S.sc) (hN : S.N.length = n + 2)
    (tm : T.Mono) (hW : T.W = (P, w)) (tx : TxtOk mg base) (hfm : S.fnm = fun _ => true) (hf : FnsOk T P w K mg base lv S.n S.fn) (hg : GlsOk T K mg S.ng S.gl) (hb : body = st :: rest) (h1 : chkS S (.asg (.name 1) (.call kb (.cons (.var 0) .nil))) st = true) (hk : T.fn kb = bagSp) (h2 : chkB S c rest = true)
    (ev : ∀ a ns b, evB T c (lawSt n a ns b) finT) :
    FnG P w K mg base (lv + 1) f (PySem.W.fnOf name qual params body S.sc dV kV doc pm an cdv ct) [p1] (lawSp K) := by
  subst hb
  refine fnG_of lk hcd Z (fun vs H Q E h => ?_) fun A outer s H vs Q E gu hr h => ?_
  · obtain ⟨a, ns, rfl, _⟩ := h
    rfl
  · obtain ⟨a, ns, rfl, hs, hq⟩ := h
    have cx := cx_ok (E := E) (outer := outer) (H := H) tm hW tx Z hfm hf hg gu hr
    have r0 := start_rl (K := K) (N := S.N) (G := H) (H := H) (β := none) (vs := [.ref a]) (ds := [.scr a ns]) (Same.refl H) (fun b z => nomatch z) (.cons (.scr hs) .nil)
    refine ⟨_, PSs.nox (pss_cons (sS _ cx h1) (sB c cx h2)), _, H, _, rfl, r0, ?_⟩
    have est : sta S.N.length [.scr a ns] none = ⟨.fz (.scr a ns) :: .un :: List.replicate n .un, none⟩ := by
      unfold sta
      rw [hN]
      rfl
    rw [est]
    show T.fn kb none [.scr a ns] _
    rw [hk]
    refine ⟨a, ns, rfl, fun ms hms => ?_⟩
    intro σ' G' H' g rl
    have rl : Rl _ G' H' σ' ⟨.fz (.scr a ns) :: .ow (.lst [.int 0, .int 1234567891, .int 0, .lst (ms.map D.int)]) :: List.replicate n .un, none⟩ := rl
    obtain ⟨b1, q1, q2, q3, vs, q4, q5⟩ := rl.ow 1 _ rfl
    obtain ⟨cs, rfl, q6⟩ := rp4l q5
    obtain ⟨v0, q7, q8⟩ := rl.fz 0 _ rfl
    have z : ∀ (i : Nat) (m : M), (lawSt n a ns (b1, cs)).sl[i]? = some m → (i = 0 ∧ m = .fz (.scr a ns)) ∨ (i = 1 ∧ m = .fz (.opq (.ref b1))) ∨ m = .un := fun i m e => by
      rcases i with _ | _ | i
      · cases e; exact .inl ⟨rfl, rfl⟩
      · cases e; exact .inr (.inl ⟨rfl, rfl⟩)
      · have e : (List.replicate n M.un)[i]? = some m := e
        rw [List.getElem?_replicate] at e
        split at e
        · cases e; exact .inr (.inr rfl)
        · cases e
    have rl2 : Rl ⟨K, fun _ => False, H'⟩ G' H' σ' (lawSt n a ns (b1, cs)) := by
      refine ⟨rl.sub, fun _ h => h.elim, rl.len, fun i d e => ?_, fun i d e => ?_, fun i j d e a' p1 => ?_, fun b hb => ?_, fun b i d hb e => ?_⟩
      · rcases z i _ e with ⟨rfl, q⟩ | ⟨rfl, q⟩ | q
        · cases q; exact ⟨v0, q7, q8⟩
        · cases q; exact ⟨_, q1, .opq _⟩
        · cases q
      · rcases z i _ e with ⟨rfl, q⟩ | ⟨rfl, q⟩ | q <;> cases q
      · rcases z i _ p1 with ⟨rfl, q⟩ | ⟨rfl, q⟩ | q <;> cases q
      · cases hb
        exact ⟨q3, 0, 1234567891, 0, ms, q4, q6, by decide, by decide, by decide, by decide, hms⟩
      · rcases z i _ e with ⟨rfl, q⟩ | ⟨rfl, q⟩ | q <;> cases q
    refine ⟨_, G', _, rfl, rl2, evB_mono tm c ?_ (ev a ns (b1, cs))⟩
    refine ⟨fun ρ h => h.elim, ?_, fun ρ h => h.elim, fun ρ h => h.elim⟩
    rintro r ρ rfl σ2 v G2 H2 g2 rl3 rr
    cases rr
    exact hq H2
end
end DI

set_option Elab.async false
set_option linter.all false
set_option autoImplicit false
set_option maxRecDepth 100000
set_option maxHeartbeats 1000000
/-! DI7: the defs of a text, one behind another. -/
namespace DI
open PySem PySem.Spec PyProof.Rows L2
/-- binding without defaults -/
def BindOk (x : Str) (prm : Arguments) (body : List Stmt) (sc : Scope) (ps : List Str) : Prop := ∀ (kV doc pm : Value) (an : Option Addr) (cdv ct : Value) (us : List Value), us.length = ps.length → bindArgs (PySem.W.fnOf x x prm body sc .none kV doc pm an cdv ct) ⟨us, []⟩ = pure (ps.zip us)
def FOk (P : Program) (w : World) (K : PySem.W.Frag) (mg : Str → Option Value) (base : Heap) (lv : Nat) (x : Str) (sp : DSp) : Prop :=
  ∃ (f : Addr) (fd : FuncData) (ps : List Str), mg x = some (.ref f) ∧ PySem.W.keepIn K (.ref f) = true ∧ Binds K fd ps [] ∧ FnG P w K mg base lv f fd ps (liftSp K sp)
section
variable {T : Tb} {P : Program} {w : World} {K : PySem.W.Frag} {mg : Str → Option Value} {base : Heap} {lv : Nat} {S : SC} {f : Addr} {x : Str} {prm : Arguments} {body : List Stmt} {kws : List (Str × V)} {fd : FuncData}
theorem fok_of {ps : List Str} {c : List CS} {sp : DSp} (hm : mg x = some (.ref f)) (F : FunD K x x prm body S.sc [] kws f fd) (hb : BindOk x prm body S.sc ps) (Z : FnScope S.N ps S.sc)
    (tm : T.Mono) (hW : T.W = (P, w)) (tx : TxtOk mg base) (hfm : S.fnm = fun _ => true) (hf : FnsOk T P w K mg base lv S.n S.fn) (hg : GlsOk T K mg S.ng S.gl) (hc : chkB S c body = true)
    (ar : ∀ β ds Q, sp β ds Q → ds.length = ps.length) (ev : ∀ β ds Q, sp β ds Q → evB T c (sta S.N.length ds β) (finE β Q)) : FOk P w K mg base (lv + 1) x sp := by
  have bd := F.bindsN hb
  have kp := F.kp
  obtain ⟨oc, od, dV, kV, doc, pm, an, cdv, ct, osl, rfl, lk, hcd, _, _⟩ := F.ex
  exact ⟨f, _, ps, hm, kp, bd, defG lk hcd Z tm hW tx hfm hf hg hc ar ev⟩
theorem fok_take {p1 p2 : Str} (hm : mg x = some (.ref f)) (F : FunD K x x prm body S.sc [] kws f fd) (hb : BindOk x prm body S.sc [p1, p2]) (Z : FnScope S.N [p1, p2] S.sc) (hN : S.N.length = 7)
    (tm : T.Mono) (hW : T.W = (P, w)) (tx : TxtOk mg base) (hfm : S.fnm = fun _ => true) (hf : FnsOk T P w K mg base lv S.n S.fn) (hg : GlsOk T K mg S.ng S.gl) (hc : chkPB S takeC body = true) : FOk P w K mg base (lv + 1) x takeSp := by
  have bd := F.bindsN hb
  have kp := F.kp
  obtain ⟨oc, od, dV, kV, doc, pm, an, cdv, ct, osl, rfl, lk, hcd, _, _⟩ := F.ex
  exact ⟨f, _, [p1, p2], hm, kp, bd, takeG lk hcd Z hN tm hW tx hfm hf hg hc⟩
theorem fok_bag {p1 : Str} (hm : mg x = some (.ref f)) (F : FunD K x x prm body S.sc [] kws f fd) (hb : BindOk x prm body S.sc [p1]) (Z : FnScope S.N [p1] S.sc) (hN : S.N.length = 2)
    (tm : T.Mono) (hW : T.W = (P, w)) (tx : TxtOk mg base) (hfm : S.fnm = fun _ => true) (hf : FnsOk T P w K mg base lv S.n S.fn) (hg : GlsOk T K mg S.ng S.gl) (hc : chkB S bagC body = true) : FOk P w K mg base (lv + 1) x bagSp := by
  have bd := F.bindsN hb
  have kp := F.kp
  obtain ⟨oc, od, dV, kV, doc, pm, an, cdv, ct, osl, rfl, lk, hcd, _, _⟩ := F.ex
  exact ⟨f, _, [p1], hm, kp, bd, bagG lk hcd Z hN tm hW tx hfm hf hg hc⟩
/-- one contract of the table changed -/
def Tb.at (T : Tb) (k : Nat) (sp : DSp) : Tb := { T with fn := fun j => if j = k then sp else T.fn j }
theorem Tb.at_same {T : Tb} {k : Nat} {sp : DSp} : (T.at k sp).fn k = sp := if_pos rfl
theorem Tb.at_ne {T : Tb} {k j : Nat} {sp : DSp} (h : j ≠ k) : (T.at k sp).fn j = T.fn j := if_neg h
theorem Tb.at_mono {T : Tb} {k : Nat} {sp : DSp} (tm : T.Mono) (hs : ∀ β ds (Q Q' : R → Prop), (∀ r, Q r → Q' r) → sp β ds Q → sp β ds Q') : (T.at k sp).Mono := fun j β ds Q Q' f h => by
  by_cases e : j = k
  · subst e
    rw [Tb.at_same] at h ⊢
    exact hs β ds Q Q' f h
  · rw [Tb.at_ne e] at h ⊢
    exact tm j β ds Q Q' f h
/-- a def that calls itself, by how deep it goes -/
theorem fok_rec {ps : List Str} {c : List CS} {sp : Nat → DSp} {kb : Nat} (hm : mg x = some (.ref f)) (F : FunD K x x prm body S.sc [] kws f fd) (hb : BindOk x prm body S.sc ps) (Z : FnScope S.N ps S.sc)
    (tm : T.Mono) (sm : ∀ n β ds (Q Q' : R → Prop), (∀ r, Q r → Q' r) → sp n β ds Q → sp n β ds Q') (hW : T.W = (P, w)) (tx : TxtOk mg base) (hfm : S.fnm = fun _ => true) (hn : S.n = kb + 1) (hx : S.fn kb = x) (hf : FnsOk T P w K mg base lv kb S.fn) (hg : GlsOk T K mg S.ng S.gl) (hc : chkB S c body = true)
    (ar : ∀ n β ds Q, sp n β ds Q → ds.length = ps.length) (sp0 : ∀ β ds Q, ¬ sp 0 β ds Q) (ev : ∀ n β ds Q, sp (n + 1) β ds Q → evB (T.at kb (sp n)) c (sta S.N.length ds β) (finE β Q)) : ∀ n, FOk P w K mg base (lv + n) x (sp n) := by
  have bd := F.bindsN hb
  have kp := F.kp
  obtain ⟨oc, od, dV, kV, doc, pm, an, cdv, ct, osl, rfl, lk, hcd, _, _⟩ := F.ex
  intro n
  refine ⟨f, _, ps, hm, kp, bd, ?_⟩
  induction n with
  | zero =>
    refine ⟨fun vs H Q E h => ?_, fun A outer s H args us vs Q E _ _ _ _ _ h => ?_⟩
    · obtain ⟨G, β, ds, _, _, _, h⟩ := h
      exact absurd h (sp0 _ _ _)
    · obtain ⟨G, β, ds, _, _, _, h⟩ := h
      exact absurd h (sp0 _ _ _)
  | succ n ih =>
    refine defG (T := T.at kb (sp n)) lk hcd Z (Tb.at_mono tm (sm n)) hW tx hfm ?_ hg hc (ar (n + 1)) (ev n)
    intro j hj
    by_cases e : j = kb
    · subst e
      rw [Tb.at_same]
      exact ⟨f, _, ps, by rw [hx]; exact hm, kp, bd, ih⟩
    · rw [Tb.at_ne e]
      obtain ⟨f', fd', ps', h1, h2, h3, h4⟩ := hf j (by omega)
      exact ⟨f', fd', ps', h1, h2, h3, h4.mono (Nat.le_add_right lv n)⟩
theorem FOk.mono {sp : DSp} {lv' : Nat} (h : FOk P w K mg base lv x sp) (hl : lv ≤ lv') : FOk P w K mg base lv' x sp := by
  obtain ⟨f, fd, ps, h1, h2, h3, h4⟩ := h
  exact ⟨f, fd, ps, h1, h2, h3, h4.mono hl⟩
/-- all defs, callees first, at levels L -/
theorem chainL {fn : Nat → Str} {N : Nat} (L : Nat → Nat) (hL : ∀ k, L k ≤ L (k + 1)) (step : ∀ k, k < N → FnsOk T P w K mg base (L k) k fn → FOk P w K mg base (L (k + 1)) (fn k) (T.fn k)) : ∀ k, k ≤ N → FnsOk T P w K mg base (L k) k fn
  | 0, _ => fun j hj => absurd hj (Nat.not_lt_zero j)
  | k + 1, h => fun j hj => by
    have ih := chainL L hL step k (Nat.le_of_succ_le h)
    by_cases e : j = k
    · subst e
      exact step j (Nat.lt_of_succ_le h) ih
    · obtain ⟨f, fd, ps, h1, h2, h3, h4⟩ := ih j (by omega)
      exact ⟨f, fd, ps, h1, h2, h3, h4.mono (hL k)⟩
/-- all defs, callees first -/
theorem chain {fn : Nat → Str} {N : Nat} (step : ∀ k, k < N → FnsOk T P w K mg base k k fn → FOk P w K mg base (k + 1) (fn k) (T.fn k)) : ∀ k, k ≤ N → FnsOk T P w K mg base k k fn
  | 0, _ => fun j hj => absurd hj (Nat.not_lt_zero j)
  | k + 1, h => fun j hj => by
    have ih := chain step k (Nat.le_of_succ_le h)
    by_cases e : j = k
    · subst e
      exact step j (Nat.lt_of_succ_le h) ih
    · obtain ⟨f, fd, ps, h1, h2, h3, h4⟩ := ih j (by omega)
      exact ⟨f, fd, ps, h1, h2, h3, h4.mono (by omega)⟩
end
end DI

set_option Elab.async false
set_option linter.all false
set_option autoImplicit false
set_option maxRecDepth 100000
set_option maxHeartbeats 1000000
/-! DI8: helps for the evaluation of bodies. -/
namespace DI
open PySem PySem.Spec PyProof.Rows L2
def sD (l : List Str) : List D := l.map D.str
def nD (l : List Nat) : List D := l.map fun (q : Nat) => D.int (q : Int)
def IsS (d : D) (l : List Str) : Prop := d = .lst (sD l) ∨ d = .tup (sD l)
def IsN (d : D) (l : List Nat) : Prop := d = .lst (nD l) ∨ d = .tup (nD l)
theorem sD_len (l : List Str) : (sD l).length = l.length := List.length_map ..
theorem nD_len (l : List Nat) : (nD l).length = l.length := List.length_map ..
theorem sD_pf (l : List Str) : (sD l).all D.pf = true := by
  unfold sD
  rw [List.all_map, List.all_eq_true]
  exact fun _ _ => rfl
theorem nD_pf (l : List Nat) : (nD l).all D.pf = true := by
  unfold nD
  rw [List.all_map, List.all_eq_true]
  exact fun _ _ => rfl
theorem beqDec {α : Type} [BEq α] [LawfulBEq α] [DecidableEq α] (a b : α) : (a == b) = decide (a = b) := by
  rw [Bool.eq_iff_iff, beq_iff_eq, decide_eq_true_eq]
theorem eqD_str {x y : Str} : eqD (.str x) (.str y) = decide (x = y) := by
  unfold eqD
  rw [D.py, D.py, PyData.eqv]
  exact beqDec x y
theorem eqD_bl {x y : Bool} : eqD (.bl x) (.bl y) = decide (x = y) := by
  unfold eqD
  rw [D.py, D.py, PyData.eqv]
  exact beqDec x y
def eqDs : List D → List D → Bool
  | [], [] => true
  | x :: xs, y :: ys => eqD x y && eqDs xs ys
  | _, _ => false
theorem eqvAll_eq (xs ys : List D) : PyData.eqvAll (pyA xs) (pyA ys) = eqDs xs ys := by
  induction xs generalizing ys with
  | nil => cases ys with
    | nil => rfl
    | cons y ys => rfl
  | cons x xs ih => cases ys with
    | nil => rfl
    | cons y ys =>
      rw [pyA, pyA, PyData.eqvAll, ih]
      rfl
theorem eqD_tup {xs ys : List D} : eqD (.tup xs) (.tup ys) = eqDs xs ys := by
  unfold eqD
  rw [D.py, D.py, PyData.eqv]
  exact eqvAll_eq xs ys
theorem eqD_lst {xs ys : List D} : eqD (.lst xs) (.lst ys) = eqDs xs ys := by
  unfold eqD
  rw [D.py, D.py, PyData.eqv]
  exact eqvAll_eq xs ys
theorem eqDs_nD : ∀ (a b : List Nat), eqDs (nD a) (nD b) = decide (a = b)
  | [], [] => rfl
  | [], y :: ys => rfl
  | x :: xs, [] => rfl
  | x :: xs, y :: ys => by
    show (eqD (.int x) (.int y) && eqDs (nD xs) (nD ys)) = _
    rw [eqD_int, eqDs_nD xs ys, Bool.eq_iff_iff]
    simp
    omega
theorem eqDs_sD : ∀ (a b : List Str), eqDs (sD a) (sD b) = decide (a = b)
  | [], [] => rfl
  | [], y :: ys => rfl
  | x :: xs, [] => rfl
  | x :: xs, y :: ys => by
    show (eqD (.str x) (.str y) && eqDs (sD xs) (sD ys)) = _
    rw [eqD_str, eqDs_sD xs ys, Bool.eq_iff_iff]
    simp
theorem inD_nD (q : Nat) (l : List Nat) : inD (.int (q : Int)) (nD l) = decide (q ∈ l) := by
  unfold inD nD
  rw [List.any_map, Bool.eq_iff_iff, List.any_eq_true, decide_eq_true_eq]
  constructor
  · rintro ⟨x, hx, e⟩
    simp only [Function.comp, eqD_int, decide_eq_true_eq] at e
    have : x = q := by omega
    exact this ▸ hx
  · intro h
    exact ⟨q, h, by simp only [Function.comp, eqD_int, decide_eq_true_eq]⟩
theorem inD_neg (i : Int) (h : i < 0) (l : List Nat) : inD (.int i) (nD l) = false := by
  unfold inD nD
  rw [List.any_map, List.any_eq_false]
  intro x hx
  simp only [Function.comp, eqD_int, decide_eq_true_eq]
  omega
theorem inD_sD (q : Str) (l : List Str) : inD (.str q) (sD l) = decide (q ∈ l) := by
  unfold inD sD
  rw [List.any_map, Bool.eq_iff_iff, List.any_eq_true, decide_eq_true_eq]
  constructor
  · rintro ⟨x, hx, e⟩
    simp only [Function.comp, eqD_str, decide_eq_true_eq] at e
    exact e ▸ hx
  · intro h
    exact ⟨q, h, by simp only [Function.comp, eqD_str, decide_eq_true_eq]⟩
theorem len_S {td : D} {t : List Str} {Q : R → Prop} (h : IsS td t) (q : Q (.fz (.int t.length))) : semB .len [td] Q := by
  rcases h with rfl | rfl
  · show Q (.fz (.int (sD t).length))
    rw [sD_len]; exact q
  · show Q (.fz (.int (sD t).length))
    rw [sD_len]; exact q
theorem len_N {td : D} {t : List Nat} {Q : R → Prop} (h : IsN td t) (q : Q (.fz (.int t.length))) : semB .len [td] Q := by
  rcases h with rfl | rfl
  · show Q (.fz (.int (nD t).length))
    rw [nD_len]; exact q
  · show Q (.fz (.int (nD t).length))
    rw [nD_len]; exact q
theorem atN {α : Type} {xs : List α} {i : Nat} {x : α} (h : xs[i]? = some x) : atI xs (i : Int) = some x := by
  unfold atI ixN
  have hl := (List.getElem?_eq_some_iff.mp h).1
  rw [if_pos (by omega), if_pos (by omega)]
  simpa using h
theorem sD_at {t : List Str} {j : Nat} (hj : j < t.length) : atI (sD t) (j : Int) = some (.str t[j]) := atN (by unfold sD; rw [List.getElem?_map, List.getElem?_eq_getElem hj]; rfl)
theorem nD_at {t : List Nat} {j : Nat} (hj : j < t.length) : atI (nD t) (j : Int) = some (.int (t[j] : Nat)) := atN (by unfold nD; rw [List.getElem?_map, List.getElem?_eq_getElem hj]; rfl)
theorem ix_S {W : Program × World} {td : D} {t : List Str} {Q : R → Prop} {i : Nat} {w : Str} (h : IsS td t) (e : t[i]? = some w) (q : Q (.fz (.str w))) : sem2 W .ix td (.int (i : Int)) Q := by
  have e2 : (sD t)[i]? = some (.str w) := by unfold sD; rw [List.getElem?_map, e]; rfl
  rcases h with rfl | rfl
  · exact ⟨_, atN e2, q⟩
  · exact ⟨_, atN e2, q⟩
theorem in_N {W : Program × World} {td : D} {t : List Nat} {Q : R → Prop} {i : Int} (h : IsN td t) (q : Q (.fz (.bl (inD (.int i) (nD t))))) : sem2 W .isin (.int i) td Q := by
  rcases h with rfl | rfl
  · exact ⟨.inl ⟨rfl, nD_pf t⟩, q⟩
  · exact ⟨.inl ⟨rfl, nD_pf t⟩, q⟩
theorem forB {T : Tb} (tm : T.Mono) {g : CG} {b : List CS} {ds : List D} {E : En} {ρ : Sta} (I : Nat → Sta → Prop) (h0 : I 0 ρ)
    (hs : ∀ i d ρ, ds[i]? = some d → I i ρ → asgG g d ρ fun ρ3 => evB T b ρ3 ⟨I (i + 1), E.rt, E.nx, I (i + 1)⟩) (he : ∀ ρ, I ds.length ρ → E.nx ρ) :
    forD (fun d ρ2 E2 => asgG g d ρ2 fun ρ3 => evB T b ρ3 E2) ds ρ E := by
  induction ds generalizing I ρ with
  | nil => exact he ρ h0
  | cons d ds ih =>
    rw [forD]
    refine asgG_mono (fun ρ3 h => evB_mono tm b (E := ⟨I (0 + 1), E.rt, E.nx, I (0 + 1)⟩) (E' := { nx := fun ρ' => forD _ ds ρ' E, ct := fun ρ' => forD _ ds ρ' E, bk := E.nx, rt := E.rt }) ⟨?_, fun _ _ h => h, fun _ h => h, ?_⟩ h) (hs 0 d ρ rfl h0)
    · exact fun ρ' h' => ih (fun i => I (i + 1)) h' (fun i d ρ e h => hs (i + 1) d ρ (by simpa using e) h) he
    · exact fun ρ' h' => ih (fun i => I (i + 1)) h' (fun i d ρ e h => hs (i + 1) d ρ (by simpa using e) h) he
theorem ifB {b : Bool} {x y : Prop} (h1 : b = true → x) (h2 : b = false → y) : if b = true then x else y := by
  cases b with
  | true => rw [if_pos rfl]; exact h1 rfl
  | false => rw [if_neg (by decide)]; exact h2 rfl
theorem ifS {b : Bool} {x : Prop} (h : x) : if b = true then x else x := by
  cases b
  · rw [if_neg (by decide)]; exact h
  · rw [if_pos rfl]; exact h
theorem ifF {x y : Prop} (h : y) : if false = true then x else y := by
  rw [if_neg (by decide)]
  exact h
theorem ifT {x y : Prop} (h : x) : if true = true then x else y := by
  rw [if_pos rfl]
  exact h
/-- a for loop by an invariant -/
theorem forI {step : D → Sta → En → Prop} {ds : List D} {E : En} {ρ : Sta} (I : Nat → Sta → Prop) (h0 : I 0 ρ)
    (hs : ∀ i d ρ (E2 : En), ds[i]? = some d → I i ρ → (∀ ρ, I (i + 1) ρ → E2.nx ρ) → (∀ ρ, I (i + 1) ρ → E2.ct ρ) → (∀ r ρ, E.rt r ρ → E2.rt r ρ) → (∀ ρ, E.nx ρ → E2.bk ρ) → step d ρ E2) (he : ∀ ρ, I ds.length ρ → E.nx ρ) :
    forD step ds ρ E := by
  induction ds generalizing I ρ with
  | nil => exact he ρ h0
  | cons d ds ih =>
    rw [forD]
    have go : ∀ ρ, I (0 + 1) ρ → forD step ds ρ E := fun ρ' h' => ih (fun i => I (i + 1)) h' (fun i d ρ E2 e h => hs (i + 1) d ρ E2 (by simpa using e) h) he
    exact hs 0 d ρ _ rfl h0 go go (fun _ _ h => h) fun _ h => h
/-- a while loop by an invariant and a measure -/
theorem whI {c : Sta → (Bool → Sta → Prop) → Prop} {b : Sta → En → Prop} {ρ : Sta} {E : En} (I : Nat → Sta → Prop) {m : Nat} (h0 : I m ρ)
    (hs : ∀ m ρ (K : Bool → Sta → Prop), I m ρ → (∀ ρ', (∀ E2 : En, (∀ m' ρ2, m' < m → I m' ρ2 → E2.nx ρ2) → (∀ m' ρ2, m' < m → I m' ρ2 → E2.ct ρ2) → (∀ r ρ, E.rt r ρ → E2.rt r ρ) → (∀ ρ, E.nx ρ → E2.bk ρ) → b ρ' E2) → K true ρ') → (∀ ρ', E.nx ρ' → K false ρ') → c ρ K) : whileD c b ρ E := by
  refine ⟨I, ⟨m, h0⟩, fun m ρ h => hs m ρ _ h (fun ρ' hb => ?_) fun ρ' h => ?_⟩
  · rw [if_pos rfl]
    exact hb _ (fun m' ρ2 h1 h2 => ⟨m', h1, h2⟩) (fun m' ρ2 h1 h2 => ⟨m', h1, h2⟩) (fun _ _ h => h) fun _ h => h
  · rw [if_neg (by decide)]
    exact h
/-- a comprehension that changes nothing: each item is kept by f -/
theorem compF {step : D → Sta → (Option D → Sta → Prop) → Prop} {ρ : Sta} {Q : List D → Sta → Prop} (f : D → Option D) : ∀ {ds acc : List D}, acc.length + ds.length < sizeLine → (∀ d ∈ ds, ∀ k : Option D → Sta → Prop, k (f d) ρ → step d ρ k) → Q (acc ++ ds.filterMap f) ρ → compD step ds acc ρ Q
  | [], acc, _, _, q => by simpa [compD] using q
  | d :: ds, acc, hl, hs, q => by
    refine ⟨by simp only [List.length_cons] at hl; omega, hs d List.mem_cons_self _ (compF f (ds := ds) ?_ (fun e he => hs e (List.mem_cons_of_mem _ he)) ?_)⟩
    · rw [List.length_append]
      simp only [List.length_cons] at hl
      have : (f d).toList.length ≤ 1 := by cases f d <;> simp
      omega
    · rw [List.append_assoc]
      cases e : f d with
      | none => simpa [e] using q
      | some x => simpa [e] using q
/-- a comprehension of draws -/
theorem compP {step : D → Sta → (Option D → Sta → Prop) → Prop} {ρ : Sta} {Q : List D → Sta → Prop} (P : D → Prop) : ∀ {ds acc : List D}, acc.length + ds.length < sizeLine → (∀ d ∈ ds, ∀ k : Option D → Sta → Prop, (∀ x, P x → k (some x) ρ) → step d ρ k) → (∀ xs : List D, xs.length = ds.length → (∀ x ∈ xs, P x) → Q (acc ++ xs) ρ) → compD step ds acc ρ Q
  | [], acc, _, _, q => by simpa [compD] using q [] rfl (fun _ h => nomatch h)
  | d :: ds, acc, hl, hs, q => by
    refine ⟨by simp only [List.length_cons] at hl; omega, hs d List.mem_cons_self _ fun x hx => compP P (ds := ds) ?_ (fun e he => hs e (List.mem_cons_of_mem _ he)) fun xs h1 h2 => ?_⟩
    · simp only [List.length_append, Option.toList, List.length_cons, List.length_nil] at hl ⊢
      omega
    · have := q (x :: xs) (by simp [h1]) (fun y hy => by
        rcases List.mem_cons.mp hy with rfl | h
        · exact hx
        · exact h2 y h)
      simpa [Option.toList] using this
theorem sD_get {t : List Str} {i : Nat} {d : D} (h : (sD t)[i]? = some d) : ∃ h : i < t.length, d = .str t[i] := by
  unfold sD at h
  rw [List.getElem?_map] at h
  cases e : t[i]? with
  | none => rw [e] at h; cases h
  | some w =>
    rw [e] at h
    obtain ⟨h1, h2⟩ := List.getElem?_eq_some_iff.mp e
    cases h
    exact ⟨h1, by rw [h2]⟩
theorem nD_get {t : List Nat} {i : Nat} {d : D} (h : (nD t)[i]? = some d) : ∃ h : i < t.length, d = .int (t[i] : Nat) := by
  unfold nD at h
  rw [List.getElem?_map] at h
  cases e : t[i]? with
  | none => rw [e] at h; cases h
  | some w =>
    rw [e] at h
    obtain ⟨h1, h2⟩ := List.getElem?_eq_some_iff.mp e
    cases h
    exact ⟨h1, by rw [h2]⟩
theorem rangeD_at {n i : Nat} {d : D} (h : (rangeD 0 (n : Int))[i]? = some d) : i < n ∧ d = .int (i : Int) := by
  unfold rangeD at h
  rw [List.getElem?_map] at h
  cases e : (List.range ((n : Int) - 0).toNat)[i]? with
  | none => rw [e] at h; cases h
  | some j =>
    rw [e] at h
    obtain ⟨h1, h2⟩ := List.getElem?_eq_some_iff.mp e
    simp at h1 h2
    subst h2
    simp at h
    exact ⟨h1, h.symm⟩
theorem rangeD_n {n : Nat} : (rangeD 0 (n : Int)).length = n := by
  unfold rangeD
  simp
end DI

set_option Elab.async false
set_option linter.all false
set_option autoImplicit false
set_option maxRecDepth 100000
set_option maxHeartbeats 1000000
/-! DI8b: what may be compared. -/
namespace DI
open PySem PySem.Spec PyProof.Rows L2
structure CmpN (n : Nat) (d : D) : Prop where
  ok : d.ok = true
  lay : d.py.canLay0 = true
  dep : d.py.depth ≤ n
theorem CmpN.cmp {n : Nat} {d : D} (h : CmpN n d) (hn : n ≤ 64) : d.cmp = true := by
  unfold D.cmp SeqAt.shaped
  rw [h.ok, h.lay, decide_eq_true (Nat.le_trans h.dep hn)]
  rfl
theorem CmpN.mono {n m : Nat} {d : D} (h : CmpN n d) (hn : n ≤ m) : CmpN m d := ⟨h.ok, h.lay, Nat.le_trans h.dep hn⟩
theorem CmpN.int {n : Nat} (i : Int) : CmpN n (.int i) := ⟨rfl, rfl, Nat.zero_le n⟩
theorem CmpN.bl {n : Nat} (i : Bool) : CmpN n (.bl i) := ⟨rfl, rfl, Nat.zero_le n⟩
theorem CmpN.non {n : Nat} : CmpN n .non := ⟨rfl, rfl, Nat.zero_le n⟩
theorem CmpN.str {n : Nat} {x : Str} (h : PyData.strOk x = true) : CmpN n (.str x) := ⟨rfl, h, Nat.zero_le n⟩
theorem cmpA {n : Nat} : ∀ {ds : List D}, (∀ d ∈ ds, CmpN n d) → okA ds = true ∧ PyData.canLayAll0 (pyA ds) = true ∧ PyData.depthAll (pyA ds) ≤ n
  | [], _ => ⟨rfl, rfl, Nat.zero_le n⟩
  | d :: ds, h => by
    obtain ⟨h1, h2, h3⟩ := cmpA (ds := ds) fun e he => h e (List.mem_cons_of_mem _ he)
    have q := h d List.mem_cons_self
    refine ⟨?_, ?_, ?_⟩
    · rw [okA, q.ok, h1]; rfl
    · rw [pyA, PyData.canLayAll0, q.lay, h2]; rfl
    · rw [pyA, PyData.depthAll]
      have := q.dep
      omega
theorem CmpN.tup {n : Nat} {ds : List D} (h : ∀ d ∈ ds, CmpN n d) : CmpN (n + 1) (.tup ds) := by
  obtain ⟨h1, h2, h3⟩ := cmpA h
  refine ⟨?_, ?_, ?_⟩
  · rw [D.ok]; exact h1
  · rw [D.py, PyData.canLay0]; exact h2
  · rw [D.py, PyData.depth]; omega
theorem CmpN.lst {n : Nat} {ds : List D} (h : ∀ d ∈ ds, CmpN n d) : CmpN (n + 1) (.lst ds) := by
  obtain ⟨h1, h2, h3⟩ := cmpA h
  refine ⟨?_, ?_, ?_⟩
  · rw [D.ok]; exact h1
  · rw [D.py, PyData.canLay0]; exact h2
  · rw [D.py, PyData.depth]; omega
theorem CmpN.nD (l : List Nat) : ∀ d ∈ nD l, CmpN 0 d := fun d hd => by
  obtain ⟨q, _, rfl⟩ := List.mem_map.mp hd
  exact .int _
theorem CmpN.sD {l : List Str} (h : ∀ x ∈ l, PyData.strOk x = true) : ∀ d ∈ sD l, CmpN 0 d := fun d hd => by
  obtain ⟨q, hq, rfl⟩ := List.mem_map.mp hd
  exact .str (h q hq)
/-- what may be shown -/
structure ShwN (n m : Nat) (d : D) : Prop where
  ok : d.ok = true
  sh : d.py.showable = true
  dep : d.py.depth ≤ n
  len : d.py.shown.length ≤ m
theorem ShwN.shw {n m : Nat} {d : D} (h : ShwN n m d) (hn : n ≤ 64) (hm : m ≤ sizeLine) : d.shw = true := by
  unfold D.shw
  rw [h.ok, h.sh, decide_eq_true (Nat.le_trans h.dep hn), decide_eq_true (Nat.le_trans h.len hm)]
  rfl
theorem ShwN.mono {n m n' m' : Nat} {d : D} (h : ShwN n m d) (h1 : n ≤ n') (h2 : m ≤ m') : ShwN n' m' d := ⟨h.ok, h.sh, Nat.le_trans h.dep h1, Nat.le_trans h.len h2⟩
theorem ShwN.str {n : Nat} {x : Str} {k : Nat} (h : PyData.strOk x = true) (hk : x.length ≤ k) : ShwN n (10 * k + 2) (.str x) := by
  refine ⟨rfl, rfl, Nat.zero_le n, ?_⟩
  show (reprText x).length ≤ _
  have := PySem.StrLaws.reprText_len x fun c hc => by
    unfold PyData.strOk at h
    rw [Array.all_eq_true_iff_forall_mem] at h
    have := h c (Array.mem_toList_iff.mp hc)
    simp at this
    omega
  omega
theorem ShwN.bl {n : Nat} (x : Bool) : ShwN n 5 (.bl x) := by
  refine ⟨rfl, rfl, Nat.zero_le n, ?_⟩
  cases x <;> decide +kernel
theorem ShwN.non {n : Nat} : ShwN n 5 .non := by
  refine ⟨rfl, rfl, Nat.zero_le n, ?_⟩
  decide +kernel
theorem shwA {n m : Nat} : ∀ {ds : List D}, (∀ d ∈ ds, ShwN n m d) → okA ds = true ∧ PyData.showableAll (pyA ds) = true ∧ PyData.depthAll (pyA ds) ≤ n ∧ ((PyData.shownAll (pyA ds)).map (·.length)).sum ≤ ds.length * m ∧ (PyData.shownAll (pyA ds)).length = ds.length
  | [], _ => ⟨rfl, rfl, Nat.zero_le n, Nat.zero_le _, rfl⟩
  | d :: ds, h => by
    obtain ⟨h1, h2, h3, h4, h5⟩ := shwA (ds := ds) fun e he => h e (List.mem_cons_of_mem _ he)
    have q := h d List.mem_cons_self
    refine ⟨?_, ?_, ?_, ?_, ?_⟩
    · rw [okA, q.ok, h1]; rfl
    · rw [pyA, PyData.showableAll, q.sh, h2]; rfl
    · rw [pyA, PyData.depthAll]
      have := q.dep
      omega
    · rw [pyA, PyData.shownAll, List.map_cons, List.sum_cons, List.length_cons, Nat.succ_mul]
      have := q.len
      omega
    · rw [pyA, PyData.shownAll, List.length_cons, List.length_cons, h5]
theorem ShwN.lst {n m : Nat} {ds : List D} (h : ∀ d ∈ ds, ShwN n m d) : ShwN (n + 1) (ds.length * (m + 2) + 3) (.lst ds) := by
  obtain ⟨h1, h2, h3, h4, h5⟩ := shwA h
  refine ⟨?_, ?_, ?_, ?_⟩
  · rw [D.ok]; exact h1
  · rw [D.py, PyData.showable]; exact h2
  · rw [D.py, PyData.depth]; omega
  · rw [D.py, PyData.shown]
    have := listText_len_le (PyData.shownAll (pyA ds))
    rw [h5] at this
    rw [Nat.mul_add]
    omega
theorem ShwN.tup {n m : Nat} {ds : List D} (h : ∀ d ∈ ds, ShwN n m d) : ShwN (n + 1) (ds.length * (m + 2) + 3) (.tup ds) := by
  obtain ⟨h1, h2, h3, h4, h5⟩ := shwA h
  refine ⟨?_, ?_, ?_, ?_⟩
  · rw [D.ok]; exact h1
  · rw [D.py, PyData.showable]; exact h2
  · rw [D.py, PyData.depth]; omega
  · rw [D.py, PyData.shown]
    have := tupleText_len_le (PyData.shownAll (pyA ds))
    rw [h5] at this
    rw [Nat.mul_add]
    omega
theorem okA_sD (l : List Str) : okA (sD l) = true := by
  induction l with
  | nil => rfl
  | cons x l ih => exact ih
end DI

set_option Elab.async false
set_option linter.all false
set_option autoImplicit false
set_option maxRecDepth 100000
set_option maxHeartbeats 1000000
/-! K62a: any values of a law: how great, how deep. -/
namespace DI
open PySem PySem.Spec PyProof.Rows L2
mutual
def wt : D → Nat
  | .non => 5
  | .bl _ => 5
  | .int _ => 60
  | .str x => 10 * x.length + 2
  | .lst xs => wtA xs + 3
  | .tup xs => wtA xs + 3
  | .dct kvs => wtK kvs + 3
  | _ => 0
def wtA : List D → Nat
  | [] => 0
  | x :: xs => wt x + 2 + wtA xs
def wtK : List (D × D) → Nat
  | [] => 0
  | (k, v) :: r => wt k + wt v + 4 + wtK r
end
mutual
def dp : D → Nat
  | .lst xs => dpA xs + 1
  | .tup xs => dpA xs + 1
  | .dct kvs => dpK kvs + 1
  | _ => 0
def dpA : List D → Nat
  | [] => 0
  | x :: xs => max (dp x) (dpA xs)
def dpK : List (D × D) → Nat
  | [] => 0
  | (_, v) :: r => max (dp v) (dpK r)
end
/-- a key: a text of plain signs -/
def isStr : D → Bool
  | .str x => x.cps.toList.all fun c => decide (c < 128)
  | _ => false
def ndK (kvs : List (D × D)) : Bool := decide ((kvs.map fun p => keyD p.1).Nodup)
mutual
def gd (b : Nat) : D → Bool
  | .non => true
  | .bl _ => true
  | .int i => decide (i.natAbs ≤ 10 ^ 39 + b)
  | .str x => PyData.strOk x
  | .lst xs => gdA b xs
  | .tup xs => gdA b xs
  | .dct kvs => gdK b kvs && decide (kvs.length < 20 + b) && ndK kvs
  | _ => false
def gdA (b : Nat) : List D → Bool
  | [] => true
  | x :: xs => gd b x && gdA b xs
def gdK (b : Nat) : List (D × D) → Bool
  | [] => true
  | (k, v) :: r => isStr k && gd b k && gd b v && gdK b r
end
structure Val (b w m : Nat) (d : D) : Prop where
  g : gd b d = true
  w : wt d ≤ w
  d : dp d ≤ m
theorem gdA_iff {b : Nat} {xs : List D} : gdA b xs = true ↔ ∀ x ∈ xs, gd b x = true := by
  induction xs with
  | nil => exact ⟨(fun _ _ h => nomatch h), fun _ => rfl⟩
  | cons x xs ih => rw [gdA, Bool.and_eq_true, ih]; simp
theorem gdK_iff {b : Nat} {xs : List (D × D)} : gdK b xs = true ↔ ∀ p ∈ xs, isStr p.1 = true ∧ gd b p.1 = true ∧ gd b p.2 = true := by
  induction xs with
  | nil => exact ⟨(fun _ _ h => nomatch h), fun _ => rfl⟩
  | cons x xs ih =>
    obtain ⟨k, v⟩ := x
    rw [gdK, Bool.and_eq_true, Bool.and_eq_true, Bool.and_eq_true, ih]
    simp [and_assoc]
mutual
theorem gd_mono {b c : Nat} (h : b ≤ c) : ∀ {d : D}, gd b d = true → gd c d = true
  | .non, _ => rfl
  | .bl _, _ => rfl
  | .int i, g => by rw [gd, decide_eq_true_eq] at g ⊢; omega
  | .str x, g => by rw [gd] at g ⊢; exact g
  | .lst xs, g => by rw [gd] at g ⊢; exact gdA_mono h g
  | .tup xs, g => by rw [gd] at g ⊢; exact gdA_mono h g
  | .dct kvs, g => by
    rw [gd, Bool.and_eq_true, Bool.and_eq_true, decide_eq_true_eq] at g ⊢
    exact ⟨⟨gdK_mono h g.1.1, by omega⟩, g.2⟩
  | .opq _, g => by simp [gd] at g
  | .scr _ _, g => by simp [gd] at g
  | .dcn _ _, g => by simp [gd] at g
theorem gdA_mono {b c : Nat} (h : b ≤ c) : ∀ {d : List D}, gdA b d = true → gdA c d = true
  | [], _ => rfl
  | x :: xs, g => by
    rw [gdA, Bool.and_eq_true] at g ⊢
    exact ⟨gd_mono h g.1, gdA_mono h g.2⟩
theorem gdK_mono {b c : Nat} (h : b ≤ c) : ∀ {d : List (D × D)}, gdK b d = true → gdK c d = true
  | [], _ => rfl
  | (k, v) :: xs, g => by
    rw [gdK, Bool.and_eq_true, Bool.and_eq_true, Bool.and_eq_true] at g ⊢
    exact ⟨⟨⟨g.1.1.1, gd_mono h g.1.1.2⟩, gd_mono h g.1.2⟩, gdK_mono h g.2⟩
end
theorem Val.mono {b w m b' w' m' : Nat} {d : D} (h : Val b w m d) (h1 : b ≤ b') (h2 : w ≤ w') (h3 : m ≤ m') : Val b' w' m' d := ⟨gd_mono h1 h.g, Nat.le_trans h.w h2, Nat.le_trans h.d h3⟩
theorem ten40 {b : Nat} {i : Int} (hb : b ≤ 1000) (h : i.natAbs ≤ 10 ^ 39 + b) : i.natAbs < 10 ^ 40 := by omega
mutual
theorem gd_shw {b : Nat} (hb : b ≤ 1000) : ∀ {d : D}, gd b d = true → d.ok = true ∧ d.py.showable = true ∧ d.py.depth ≤ dp d ∧ d.py.shown.length ≤ wt d
  | .non, _ => ⟨rfl, rfl, Nat.le_refl _, by decide +kernel⟩
  | .bl x, _ => ⟨rfl, rfl, Nat.le_refl _, by cases x <;> decide +kernel⟩
  | .int i, g => by
    rw [gd, decide_eq_true_eq] at g
    have h40 := ten40 hb g
    refine ⟨rfl, ?_, Nat.le_refl _, ?_⟩
    · rw [D.py, PyData.showable, decide_eq_true_eq]
      by_cases h0 : i.natAbs = 0
      · rw [h0]; decide
      · rw [Nat.log2_lt h0]
        exact Nat.lt_of_lt_of_le h40 (by decide +kernel)
    · rw [D.py, PyData.shown, wt]
      have := int_text_length_le10 (k := 40) (by decide) h40
      have e : (Str.ofString (toString i)).length ≤ (toString i).length := by rw [PySem.ofString_length]; exact Nat.le_refl _
      omega
  | .str x, g => by
    rw [gd] at g
    have := (ShwN.str (n := 0) (k := x.length) g (Nat.le_refl _)).len
    exact ⟨rfl, rfl, Nat.le_refl _, this⟩
  | .lst xs, g => by
    rw [gd] at g
    obtain ⟨h1, h2, h3, h4, h5⟩ := gdA_shw hb g
    refine ⟨by rw [D.ok]; exact h1, by rw [D.py, PyData.showable]; exact h2, by rw [D.py, PyData.depth, dp]; omega, ?_⟩
    rw [D.py, PyData.shown, wt]
    have := listText_len_le (PyData.shownAll (pyA xs))
    omega
  | .tup xs, g => by
    rw [gd] at g
    obtain ⟨h1, h2, h3, h4, h5⟩ := gdA_shw hb g
    refine ⟨by rw [D.ok]; exact h1, by rw [D.py, PyData.showable]; exact h2, by rw [D.py, PyData.depth, dp]; omega, ?_⟩
    rw [D.py, PyData.shown, wt]
    have := tupleText_len_le (PyData.shownAll (pyA xs))
    omega
  | .dct kvs, g => by
    rw [gd, Bool.and_eq_true, Bool.and_eq_true] at g
    obtain ⟨h1, h2, h3, h4, h5⟩ := gdK_shw hb g.1.1
    refine ⟨by rw [D.ok]; exact h1, by rw [D.py, PyData.showable]; exact h2, by rw [D.py, PyData.depth, dp]; omega, ?_⟩
    rw [D.py, PyData.shown, wt]
    have := dictText_len_le (PyData.shownKv (pyK kvs))
    omega
  | .opq _, g => by simp [gd] at g
  | .scr _ _, g => by simp [gd] at g
  | .dcn _ _, g => by simp [gd] at g
theorem gdA_shw {b : Nat} (hb : b ≤ 1000) : ∀ {ds : List D}, gdA b ds = true → okA ds = true ∧ PyData.showableAll (pyA ds) = true ∧ PyData.depthAll (pyA ds) ≤ dpA ds ∧ ((PyData.shownAll (pyA ds)).map (·.length)).sum + 2 * (PyData.shownAll (pyA ds)).length ≤ wtA ds ∧ True
  | [], _ => ⟨rfl, rfl, Nat.le_refl _, Nat.le_refl _, trivial⟩
  | x :: xs, g => by
    rw [gdA, Bool.and_eq_true] at g
    obtain ⟨a1, a2, a3, a4⟩ := gd_shw hb g.1
    obtain ⟨h1, h2, h3, h4, h5⟩ := gdA_shw hb g.2
    refine ⟨by rw [okA, a1, h1]; rfl, by rw [pyA, PyData.showableAll, a2, h2]; rfl, by rw [pyA, PyData.depthAll, dpA]; omega, ?_, trivial⟩
    rw [pyA, PyData.shownAll, List.map_cons, List.sum_cons, List.length_cons, wtA]
    omega
theorem gdK_shw {b : Nat} (hb : b ≤ 1000) : ∀ {ds : List (D × D)}, gdK b ds = true → okK ds = true ∧ PyData.showableKv (pyK ds) = true ∧ PyData.depthKv (pyK ds) ≤ dpK ds ∧ ((PyData.shownKv (pyK ds)).map (·.length)).sum + 2 * (PyData.shownKv (pyK ds)).length ≤ wtK ds ∧ True
  | [], _ => ⟨rfl, rfl, Nat.le_refl _, Nat.le_refl _, trivial⟩
  | (k, v) :: xs, g => by
    rw [gdK, Bool.and_eq_true, Bool.and_eq_true, Bool.and_eq_true] at g
    obtain ⟨⟨⟨g0, g1⟩, g2⟩, g3⟩ := g
    obtain ⟨a1, a2, a3, a4⟩ := gd_shw hb g1
    obtain ⟨b1, b2, b3, b4⟩ := gd_shw hb g2
    obtain ⟨h1, h2, h3, h4, h5⟩ := gdK_shw hb g3
    have hk : dp k = 0 := by cases k <;> first | rfl | cases g0
    refine ⟨by rw [okK, a1, b1, h1]; rfl, by rw [pyK, PyData.showableKv, a2, b2, h2]; rfl, by rw [pyK, PyData.depthKv, dpK]; omega, ?_, trivial⟩
    rw [pyK, PyData.shownKv, List.map_cons, List.sum_cons, List.length_cons, wtK]
    have e : (k.py.shown ++ ": " ++ v.py.shown).length = k.py.shown.length + 2 + v.py.shown.length := by
      rw [strLen_append, strLen_append]
      rfl
    omega
end
theorem Val.shw {b w m : Nat} {d : D} (h : Val b w m d) (hb : b ≤ 1000) (hw : w ≤ 16777216) (hm : m ≤ 64) : d.shw = true := by
  obtain ⟨h1, h2, h3, h4⟩ := gd_shw hb h.g
  unfold D.shw
  rw [h1, h2, decide_eq_true (Nat.le_trans h3 (Nat.le_trans h.d hm)), decide_eq_true (by rw [sizeLine_eq]; exact Nat.le_trans h4 (Nat.le_trans h.w hw))]
  rfl
end DI

set_option Elab.async false
set_option linter.all false
set_option autoImplicit false
set_option maxRecDepth 100000
set_option maxHeartbeats 4000000
/-! K62b: any values drawn. -/
namespace K62
open PySem PySem.Spec PyProof.Rows L2 DI
section
variable {T : Tb} {β : Option Bag}
def bd_l_one : List CS := [.ret (.op2 .ix (.var 1) (.call 6 (.cons (.var 0) (.cons (.bi .len (.cons (.var 1) .nil)) .nil))))]
def oneSp : DSp := fun β ds Q => ∃ (b : Bag) (l : List D) (ld : D), β = some b ∧ ds = [.opq (.ref b.1), ld] ∧ (ld = .lst l ∨ ld = .tup l) ∧ l ≠ [] ∧ l.length < 1000 ∧ ∀ d ∈ l, Q (.fz d)
theorem one_ev (t6 : T.fn 6 = takeSp) {ds : List D} {Q : R → Prop} (h : oneSp β ds Q) : evB T bd_l_one (sta 2 ds β) (finE β Q) := by
  obtain ⟨b, l, ld, rfl, rfl, hl, hne, h1000, q⟩ := h
  have hpos := List.length_pos_iff.mpr hne
  rcases hl with rfl | rfl
  all_goals
    show evB T _ ⟨[.fz _, .fz _], some b⟩ _
    show T.fn 6 (some b) [.opq (.ref b.1), .int (l.length : Int)] _
    rw [t6]
    refine ⟨b, _, rfl, rfl, by omega, by omega, fun r r0 r1 => ?_⟩
    obtain ⟨j, rfl⟩ := Int.eq_ofNat_of_zero_le r0
    have hj : j < l.length := by omega
    refine Exists.intro _ (And.intro (atN (List.getElem?_eq_getElem hj)) ?_)
    exact ⟨rfl, q _ (List.getElem_mem hj)⟩
def bd_l_odd : List CS := [.asg (.name 1) (.call 8 (.cons (.var 0) (.cons (.lst (.cons (.lst .nil) (.cons (.tup .nil) (.cons (.con (.str "a")) (.cons .dk0 .nil))))) .nil))), .for_ (.name 2) (.range (.cons (.con (.int 8)) .nil)) [.asg (.name 1) (.ifx (.cmp .eq (.call 6 (.cons (.var 0) (.cons (.con (.int 2)) .nil))) (.con (.int 0))) (.lst (.cons (.var 1) .nil)) (.tup (.cons (.var 1) .nil)))], .asg (.name 3) (.lst (.cons (.con .non) (.cons (.con (.bl true)) (.cons (.con (.bl false)) (.cons (.con (.int 0)) (.cons (.con (.int 1)) (.cons (.op1 .neg (.con (.int 1))) (.cons (.op2 .pow (.con (.int 10)) (.con (.int 39))) (.cons (.con (.str "")) (.cons (.con (.str "a")) (.cons (.con (.str "A")) (.cons (.con (.str "ninesigns")) (.cons (.con (.str "a b")) (.cons (.con (.str "a\n")) (.cons (.lst .nil) (.cons (.tup .nil) (.cons .dk0 (.cons (.lst (.cons (.con (.str "a")) .nil)) (.cons (.tup (.cons (.con (.str "a")) .nil)) .nil))))))))))))))))))), .asg (.name 3) (.op2 .add (.var 3) (.lst (.cons (.tup (.cons (.con (.str "b")) (.cons (.con (.str "a")) .nil))) (.cons (.tup (.cons (.con (.str "a")) (.cons (.con (.str "a")) .nil))) (.cons (.tup (.cons (.con (.str "a")) (.cons (.con (.int 1)) .nil))) (.cons (.tup (.cons (.tup (.cons (.con (.str "a")) .nil)) .nil)) (.cons (.dk1 "a" (.con (.str "b"))) (.cons (.dk1 "a" (.tup .nil)) (.cons (.lst (.cons (.tup (.cons (.con (.str "a")) .nil)) (.cons (.tup .nil) .nil))) (.cons (.op2 .mul (.lst (.cons (.con (.int 0)) .nil)) (.con (.int 1500))) (.cons (.var 1) .nil))))))))))), .asg (.name 3) (.op2 .add (.var 3) (.lst (.cons (.tup (.cons (.con (.bl true)) .nil)) (.cons (.tup (.cons (.con (.bl false)) (.cons (.con (.bl true)) .nil))) (.cons (.tup (.cons (.con (.int 1)) .nil)) (.cons (.tup (.cons (.con (.int 0)) (.cons (.con (.int 1)) .nil))) (.cons (.lst (.cons (.con (.bl true)) .nil)) (.cons (.tup (.cons (.tup (.cons (.con (.bl true)) .nil)) (.cons (.lst .nil) .nil))) (.cons (.tup (.cons (.tup .nil) (.cons (.lst .nil) .nil))) (.cons (.tup (.cons (.tup .nil) (.cons (.tup .nil) .nil))) (.cons (.lst (.cons (.tup (.cons (.tup .nil) (.cons (.lst .nil) .nil))) .nil)) .nil))))))))))), .asg (.name 3) (.op2 .add (.var 3) (.lst (.cons (.tup (.cons (.con (.str "on")) .nil)) (.cons (.tup (.cons (.con (.str "end")) .nil)) (.cons (.tup (.cons (.con (.str "leave")) (.cons (.con (.str "a")) .nil))) (.cons (.tup (.cons (.con (.str "raise")) (.cons (.con (.str "a")) .nil))) (.cons (.tup (.cons (.con (.str "stop")) (.cons (.con (.str "a")) .nil))) (.cons (.tup (.cons (.con (.str "out")) (.cons (.tup (.cons (.con (.str "end")) .nil)) .nil))) (.cons (.tup (.cons (.con (.str "round")) .nil)) .nil))))))))), .asg (.name 3) (.op2 .add (.var 3) (.lst (.cons (.tup (.cons (.con (.str "do")) (.cons (.con (.str "a")) .nil))) (.cons (.tup (.cons (.con (.str "do")) (.cons (.con (.str "a")) (.cons (.tup .nil) .nil)))) (.cons (.tup (.cons (.con (.str "mark")) (.cons (.con (.str "a")) .nil))) (.cons (.tup (.cons (.con (.str "mark")) (.cons (.con (.str "a")) (.cons (.con (.int 0)) .nil)))) (.cons (.tup (.cons (.con (.str "if")) (.cons (.con (.str "a")) (.cons (.tup .nil) (.cons (.tup .nil) .nil))))) .nil))))))), .asg (.name 3) (.op2 .add (.var 3) (.lst (.cons (.tup (.cons (.con (.str "ask")) (.cons (.con (.str "a")) (.cons (.con (.int 0)) (.cons (.con (.int 0)) .nil))))) (.cons (.tup (.cons (.con (.str "loop")) (.cons (.con (.str "a")) (.cons (.tup .nil) .nil)))) (.cons (.tup (.cons (.con (.str "try")) (.cons (.tup .nil) (.cons (.tup .nil) (.cons (.tup .nil) .nil))))) (.cons (.tup (.cons (.con (.str "call")) (.cons (.con (.str "a")) .nil))) .nil)))))), .asg (.name 3) (.op2 .add (.var 3) (.lst (.cons (.tup (.cons (.con (.str "never")) (.cons (.tup (.cons (.tup (.cons (.con (.str "a")) (.cons (.con (.bl true)) .nil))) .nil)) .nil))) (.cons (.tup (.cons (.con (.str "never")) .nil)) (.cons (.con (.str "on")) .nil))))), .ret (.call 8 (.cons (.var 0) (.cons (.var 3) .nil)))]
def valB (d : D) : Bool := gd 0 d && decide (wt d ≤ 100000) && decide (dp d ≤ 12)
theorem valB_ok {d : D} (h : valB d = true) : Val 0 100000 12 d := by
  unfold valB at h
  rw [Bool.and_eq_true, Bool.and_eq_true, decide_eq_true_eq, decide_eq_true_eq] at h
  exact ⟨h.1.1, h.1.2, h.2⟩
def oddSp : DSp := fun β ds Q => ∃ b : Bag, β = some b ∧ ds = [.opq (.ref b.1)] ∧ ∀ d, Val 0 100000 12 d → Q (.fz d)
theorem zeros_ok : valB (.lst (List.replicate (1500 : Int).toNat [D.int 0]).flatten) = true := by decide +kernel
theorem odd_ev (t6 : T.fn 6 = takeSp) (t8 : T.fn 8 = oneSp) {ds : List D} {Q : R → Prop} (h : oddSp β ds Q) : evB T bd_l_odd (sta 4 ds β) (finE β Q) := by
  obtain ⟨b, rfl, rfl, q⟩ := h
  show evB T _ ⟨[.fz (.opq (.ref b.1)), .un, .un, .un], some b⟩ _
  iterate 3 refine And.intro (by rw [sizeLine_eq]; simp) ?_
  show T.fn 8 (some b) [.opq (.ref b.1), .lst [.lst [], .tup [], .str "a", .dct []]] _
  rw [t8]
  refine ⟨b, _, _, rfl, rfl, .inl rfl, by simp, by simp, fun d0 h0 => ?_⟩
  have v0 : Val 0 100 2 d0 := by
    simp only [List.mem_cons, List.not_mem_nil, or_false] at h0
    rcases h0 with rfl | rfl | rfl | rfl
    · exact ⟨by decide +kernel, by decide +kernel, by decide +kernel⟩
    · exact ⟨by decide +kernel, by decide +kernel, by decide +kernel⟩
    · exact ⟨by decide +kernel, by decide +kernel, by decide +kernel⟩
    · exact ⟨by decide +kernel, by decide +kernel, by decide +kernel⟩
  refine ifS ?_
  refine And.intro (by decide) (And.intro (by decide) ?_)
  refine forI (fun i ρ => ∃ (m1 m2 : M) (d : D), ρ = ⟨[.fz (.opq (.ref b.1)), m1, m2, .un], some b⟩ ∧ (m1 = .fz d ∨ m1 = .ow d) ∧ Val 0 (100 + 5 * i) (2 + i) d) ⟨.fz d0, .un, d0, rfl, .inl rfl, v0⟩ ?_ ?_
  · rintro i d _ E2 - ⟨m1, m2, x, rfl, hm, hv⟩ hn - - -
    have hl : Val 0 (100 + 5 * (i + 1)) (2 + (i + 1)) (.lst [x]) := ⟨by simp [gd, gdA, hv.g], by simp [wt, wtA]; have := hv.w; omega, by simp [dp, dpA]; have := hv.d; omega⟩
    have ht : Val 0 (100 + 5 * (i + 1)) (2 + (i + 1)) (.tup [x]) := ⟨by simp [gd, gdA, hv.g], by simp [wt, wtA]; have := hv.w; omega, by simp [dp, dpA]; have := hv.d; omega⟩
    rcases hm with rfl | rfl
    all_goals
      show T.fn 6 (some b) [.opq (.ref b.1), .int 2] _
      rw [t6]
      refine ⟨b, _, rfl, rfl, by omega, by omega, fun r r0 r1 => ?_⟩
      refine And.intro (.inl ⟨rfl, rfl⟩) ?_
      refine ifB (fun h => ?_) fun h => ?_
      · refine And.intro (by rw [sizeLine_eq]; simp) ?_
        exact hn _ ⟨_, _, _, rfl, .inr rfl, hl⟩
      · refine And.intro (by rw [sizeLine_eq]; simp) ?_
        exact hn _ ⟨_, _, _, rfl, .inl rfl, ht⟩
  · rintro _ ⟨m1, m2, x, rfl, hm, hv⟩
    have hv : Val 0 (100 + 5 * (rangeD 0 8).length) (2 + (rangeD 0 8).length) x := hv
    rw [show (rangeD 0 8).length = 8 from rangeD_n (n := 8)] at hv
    have hv := hv.mono (Nat.le_refl 0) (show 100 + 5 * 8 ≤ 100000 by decide) (show 2 + 8 ≤ 12 by decide)
    rcases hm with rfl | rfl
    all_goals
      refine And.intro ⟨by decide, by decide, by decide⟩ ?_
      repeat refine And.intro (by rw [sizeLine_eq]; simp) ?_
      refine And.intro (by decide) (And.intro (by decide) (And.intro (by rw [sizeLine_eq]; decide) ?_))
      repeat refine And.intro (by rw [sizeLine_eq]; simp) ?_
      show T.fn 8 (some b) [.opq (.ref b.1), .lst _] _
      rw [t8]
      refine ⟨b, _, _, rfl, rfl, .inl rfl, by simp, by simp, fun d hd => ?_⟩
      refine ifS ⟨rfl, q d ?_⟩
      simp only [List.mem_append, List.mem_cons, List.not_mem_nil, or_false] at hd
      repeat' (revert hd; rw [or_imp]; refine And.intro (fun hd => ?_) (fun hd => ?_))
      all_goals
        subst hd
        first | exact hv | exact valB_ok (by decide +kernel) | exact valB_ok zeros_ok
end
end K62

set_option Elab.async false
set_option linter.all false
set_option autoImplicit false
set_option maxRecDepth 100000
set_option maxHeartbeats 4000000
/-! K62c: how values change. -/
namespace DI
open PySem PySem.Spec PyProof.Rows L2
theorem dpA_le {xs : List D} {n : Nat} : dpA xs ≤ n ↔ ∀ x ∈ xs, dp x ≤ n := by
  induction xs with
  | nil => exact ⟨(fun _ _ h => nomatch h), fun _ => Nat.zero_le n⟩
  | cons x xs ih => rw [dpA, Nat.max_le, ih]; simp
theorem dpK_le {xs : List (D × D)} {n : Nat} : dpK xs ≤ n ↔ ∀ p ∈ xs, dp p.2 ≤ n := by
  induction xs with
  | nil => exact ⟨(fun _ _ h => nomatch h), fun _ => Nat.zero_le n⟩
  | cons x xs ih =>
    obtain ⟨k, v⟩ := x
    rw [dpK, Nat.max_le, ih]; simp
theorem wtA_app (xs ys : List D) : wtA (xs ++ ys) = wtA xs + wtA ys := by
  induction xs with
  | nil => simp [wtA]
  | cons x xs ih => rw [List.cons_append, wtA, wtA, ih]; omega
theorem wtK_app (xs ys : List (D × D)) : wtK (xs ++ ys) = wtK xs + wtK ys := by
  induction xs with
  | nil => simp [wtK]
  | cons x xs ih =>
    obtain ⟨k, v⟩ := x
    rw [List.cons_append, wtK, wtK, ih]; omega
theorem wtA_len (xs : List D) : 2 * xs.length ≤ wtA xs := by
  induction xs with
  | nil => exact Nat.le_refl _
  | cons x xs ih => rw [wtA, List.length_cons]; omega
theorem wtA_erase (xs : List D) (i : Nat) : wtA (xs.eraseIdx i) ≤ wtA xs := by
  induction xs generalizing i with
  | nil => exact Nat.le_refl _
  | cons x xs ih =>
    cases i with
    | zero => rw [List.eraseIdx_cons_zero, wtA]; omega
    | succ i => rw [List.eraseIdx_cons_succ, wtA, wtA]; have := ih i; omega
theorem wtA_set {xs : List D} {i : Nat} {x y : D} (h : xs[i]? = some x) : wtA (xs.set i y) + wt x = wtA xs + wt y := by
  induction xs generalizing i with
  | nil => cases h
  | cons z xs ih =>
    cases i with
    | zero => cases h; rw [List.set_cons_zero, wtA, wtA]; omega
    | succ i => rw [List.set_cons_succ, wtA, wtA]; have := ih (i := i) (by simpa using h); omega
theorem wtA_mem {xs : List D} {x : D} (h : x ∈ xs) : wt x + 2 ≤ wtA xs := by
  induction xs with
  | nil => cases h
  | cons z xs ih =>
    rw [wtA]
    rcases List.mem_cons.mp h with rfl | h
    · omega
    · have := ih h; omega
theorem wtK_mem {xs : List (D × D)} {p : D × D} (h : p ∈ xs) : wt p.1 + wt p.2 + 4 ≤ wtK xs := by
  induction xs with
  | nil => cases h
  | cons z xs ih =>
    obtain ⟨k, v⟩ := z
    rw [wtK]
    rcases List.mem_cons.mp h with rfl | h
    · show wt k + wt v + 4 ≤ _
      omega
    · have := ih h; omega
/-- the items of a list or tuple -/
theorem Val.items {b w m : Nat} {xs : List D} {d : D} (hd : d = .lst xs ∨ d = .tup xs) (h : Val b w m d) : (∀ x ∈ xs, Val b w (m - 1) x ∧ 1 ≤ m) ∧ wtA xs + 3 ≤ w ∧ gdA b xs = true ∧ dpA xs + 1 ≤ m := by
  obtain ⟨g, w', d'⟩ := h
  rcases hd with rfl | rfl
  all_goals
    rw [gd] at g
    rw [wt] at w'
    rw [dp] at d'
    refine ⟨fun x hx => ⟨⟨gdA_iff.mp g x hx, ?_, ?_⟩, by omega⟩, w', g, d'⟩
    · have := wtA_mem hx; omega
    · have := dpA_le.mp (Nat.le_refl (dpA xs)) x hx; omega
theorem Val.lst {b w m : Nat} {xs : List D} (h1 : gdA b xs = true) (h2 : wtA xs + 3 ≤ w) (h3 : dpA xs + 1 ≤ m) : Val b w m (.lst xs) := ⟨by rw [gd]; exact h1, by rw [wt]; exact h2, by rw [dp]; exact h3⟩
theorem Val.tup {b w m : Nat} {xs : List D} (h1 : gdA b xs = true) (h2 : wtA xs + 3 ≤ w) (h3 : dpA xs + 1 ≤ m) : Val b w m (.tup xs) := ⟨by rw [gd]; exact h1, by rw [wt]; exact h2, by rw [dp]; exact h3⟩
/-! ### dicts -/
theorem hasD_iff {kvs : List (D × D)} {k : Key} : hasD kvs k = true ↔ some k ∈ kvs.map fun p => keyD p.1 := by
  unfold hasD
  rw [List.any_eq_true, List.mem_map]
  constructor
  · rintro ⟨p, h1, h2⟩; exact ⟨p, h1, by simpa using h2⟩
  · rintro ⟨p, h1, h2⟩; exact ⟨p, h1, by simpa using h2⟩
theorem ndK_iff {kvs : List (D × D)} : ndK kvs = true ↔ (kvs.map fun p => keyD p.1).Nodup := by
  unfold ndK
  rw [decide_eq_true_eq]
theorem putDD_keys {kvs : List (D × D)} {k : Key} {d : D} : (putDD kvs k d).map (fun p => keyD p.1) = if hasD kvs k = true then kvs.map (fun p => keyD p.1) else kvs.map (fun p => keyD p.1) ++ [some k] := by
  unfold putDD
  split
  · rw [List.map_map]
    refine List.map_congr_left fun p hp => ?_
    simp only [Function.comp]
    split <;> rfl
  · rw [List.map_append, List.map_cons, List.map_nil, keyD_kD]
theorem putDD_nd {kvs : List (D × D)} {k : Key} {d : D} (h : ndK kvs = true) : ndK (putDD kvs k d) = true := by
  rw [ndK_iff] at h ⊢
  rw [putDD_keys]
  split
  · exact h
  · rename_i hh
    rw [List.nodup_append]
    refine ⟨h, List.nodup_cons.mpr ⟨List.not_mem_nil, List.nodup_nil⟩, ?_⟩
    rintro a ha c hc rfl
    rw [List.mem_singleton.mp hc] at ha
    exact hh (hasD_iff.mpr ha)
theorem putDD_len (kvs : List (D × D)) (k : Key) (d : D) : (putDD kvs k d).length ≤ kvs.length + 1 := by
  unfold putDD
  split <;> simp
theorem putDD_mem {kvs : List (D × D)} {k : Key} {d : D} {p : D × D} (h : p ∈ putDD kvs k d) : p ∈ kvs ∨ ((∃ q ∈ kvs, p.1 = q.1) ∨ p.1 = kD k) ∧ p.2 = d := by
  unfold putDD at h
  split at h
  · obtain ⟨q, hq, rfl⟩ := List.mem_map.mp h
    split
    · exact .inr ⟨.inl ⟨q, hq, rfl⟩, rfl⟩
    · exact .inl hq
  · rcases List.mem_append.mp h with h | h
    · exact .inl h
    · rw [List.mem_singleton.mp h]
      exact .inr ⟨.inr rfl, rfl⟩
theorem wtK_map {kvs : List (D × D)} {k : Key} {d : D} (h : (kvs.map fun p => keyD p.1).Nodup) : wtK (kvs.map fun p => if keyD p.1 = some k then (p.1, d) else p) ≤ wtK kvs + wt d := by
  induction kvs with
  | nil => simp [wtK]
  | cons p kvs ih =>
    obtain ⟨a, v⟩ := p
    rw [List.map_cons, List.nodup_cons] at h
    rw [List.map_cons]
    by_cases e : keyD a = some k
    · rw [if_pos e]
      have : (kvs.map fun p => if keyD p.1 = some k then (p.1, d) else p) = kvs := by
        conv => rhs; rw [← List.map_id kvs]
        refine List.map_congr_left fun q hq => ?_
        rw [if_neg fun z => h.1 (List.mem_map.mpr ⟨q, hq, by rw [z]; exact e.symm⟩)]
        rfl
      rw [this]
      show wtK ((a, d) :: kvs) ≤ wtK ((a, v) :: kvs) + wt d
      rw [wtK, wtK]
      omega
    · rw [if_neg e, wtK, wtK]
      have := ih h.2
      omega
theorem putDD_wt {kvs : List (D × D)} {k : Key} {d : D} (h : ndK kvs = true) : wtK (putDD kvs k d) ≤ wtK kvs + wt (kD k) + wt d + 4 := by
  rw [ndK_iff] at h
  unfold putDD
  split
  · have := wtK_map (k := k) (d := d) h; omega
  · rw [wtK_app]
    simp [wtK]
    omega
theorem mergeDD_fresh {ms : List (Key × D)} : ∀ {kvs : List (D × D)}, (kvs.map (fun p => keyD p.1) ++ ms.map (fun p => some p.1)).Nodup → mergeDD kvs ms = kvs ++ ms.map fun p => (kD p.1, p.2) := by
  induction ms with
  | nil => intro kvs _; simp [mergeDD]
  | cons p ms ih =>
    intro kvs h
    have hn : hasD kvs p.1 = false := by
      cases e : hasD kvs p.1 with
      | false => rfl
      | true =>
        have := hasD_iff.mp e
        rw [List.nodup_append] at h
        exact absurd rfl (h.2.2 _ this _ List.mem_cons_self)
    have e1 : putDD kvs p.1 p.2 = kvs ++ [(kD p.1, p.2)] := by
      unfold putDD
      rw [hn, if_neg (by decide)]
    show mergeDD (putDD kvs p.1 p.2) ms = _
    rw [e1, ih (by rw [List.map_append, List.map_cons, List.map_nil, keyD_kD, List.append_assoc]; simpa using h), List.append_assoc]
    rfl
end DI

set_option Elab.async false
set_option linter.all false
set_option autoImplicit false
set_option maxRecDepth 100000
set_option maxHeartbeats 4000000
/-! K62d: values bent. -/
namespace K62
open PySem PySem.Spec PyProof.Rows L2 DI
section
variable {T : Tb}
def bd_l_bent : List CS := [.asg (.name 2) (.call 6 (.cons (.var 0) (.cons (.con (.int 6)) .nil))), .ite (.and (.val (.bi .isi (.cons (.var 1) (.cons (.tyc "dict") .nil)))) (.and (.cmp .gt (.bi .len (.cons (.var 1) .nil)) (.con (.int 0))) (.cmp .lt (.var 2) (.con (.int 5))))) [.asg (.name 3) (.call 8 (.cons (.var 0) (.cons (.bi .sorted (.cons (.var 1) .nil)) .nil))), .asg (.name 4) (.bi .dict (.cons (.compk [8] (.name 8) 1 (.some (.cmp .ne (.var 8) (.var 3))) (.tup (.cons (.var 8) (.cons (.op2 .ix (.var 1) (.var 8)) .nil)))) .nil)), .ite (.cmp .gt (.var 2) (.con (.int 0))) [.asg (.name 7) (.op2 .ix (.lst (.cons (.var 3) (.cons (.var 3) (.cons (.op2 .add (.var 3) (.con (.str "a"))) (.cons (.upper (.var 3)) (.cons (.var 3) .nil)))))) (.var 2)), .dset 4 (.var 7) (.ifx (.cmp .isin (.var 2) (.tup (.cons (.con (.int 1)) (.cons (.con (.int 4)) .nil)))) (.call 11 (.cons (.var 0) (.cons (.op2 .ix (.var 1) (.var 3)) .nil))) (.op2 .ix (.var 1) (.var 3)))] [], .ret (.var 4)] [], .ite (.or (.not (.val (.bi .isi (.cons (.var 1) (.cons (.tup (.cons (.tyc "list") (.cons (.tyc "tuple") .nil))) .nil))))) (.or (.cmp .eq (.bi .len (.cons (.var 1) .nil)) (.con (.int 0))) (.cmp .eq (.var 2) (.con (.int 5))))) [.ite (.and (.val (.bi .isi (.cons (.var 1) (.cons (.tyc "str") .nil)))) (.cmp .lt (.var 2) (.con (.int 3)))) [.ret (.op2 .ix (.lst (.cons (.op2 .add (.var 1) (.con (.str "a"))) (.cons (.slc (.var 1) .none (.some (.op1 .neg (.con (.int 1))))) (.cons (.con (.str "z")) .nil)))) (.var 2))] [], .ite (.and (.val (.bi .isi (.cons (.var 1) (.cons (.tyc "int") .nil)))) (.and (.not (.val (.bi .isi (.cons (.var 1) (.cons (.tyc "bool") .nil))))) (.cmp .lt (.var 2) (.con (.int 3))))) [.ret (.op2 .ix (.lst (.cons (.op2 .add (.var 1) (.con (.int 1))) (.cons (.op2 .sub (.var 1) (.con (.int 1))) (.cons (.bi .str (.cons (.var 1) .nil)) .nil)))) (.var 2))] [], .ret (.call 10 (.cons (.var 0) .nil))] [], .par 5 6 (.call 6 (.cons (.var 0) (.cons (.bi .len (.cons (.var 1) .nil)) .nil))) (.bi .list (.cons (.var 1) .nil)), .ite (.cmp .eq (.var 2) (.con (.int 0))) [.expr (.mut .popAt 6 (.cons (.var 5) .nil))] [.ite (.cmp .eq (.var 2) (.con (.int 1))) [.expr (.mut .insert 6 (.cons (.var 5) (.cons (.op2 .ix (.var 1) (.var 5)) .nil)))] [.ite (.cmp .eq (.var 2) (.con (.int 2))) [.ret (.ifx (.val (.bi .isi (.cons (.var 1) (.cons (.tyc "tuple") .nil)))) (.var 6) (.bi .tuple (.cons (.var 6) .nil)))] [.sub 6 (.var 5) (.call 11 (.cons (.var 0) (.cons (.op2 .ix (.var 6) (.var 5)) .nil)))]]], .ret (.ifx (.val (.bi .isi (.cons (.var 1) (.cons (.tyc "tuple") .nil)))) (.bi .tuple (.cons (.var 6) .nil)) (.var 6))]
def brA : List CS := [.ite (.and (.val (.bi .isi (.cons (.var 1) (.cons (.tyc "str") .nil)))) (.cmp .lt (.var 2) (.con (.int 3)))) [.ret (.op2 .ix (.lst (.cons (.op2 .add (.var 1) (.con (.str "a"))) (.cons (.slc (.var 1) .none (.some (.op1 .neg (.con (.int 1))))) (.cons (.con (.str "z")) .nil)))) (.var 2))] [], .ite (.and (.val (.bi .isi (.cons (.var 1) (.cons (.tyc "int") .nil)))) (.and (.not (.val (.bi .isi (.cons (.var 1) (.cons (.tyc "bool") .nil))))) (.cmp .lt (.var 2) (.con (.int 3))))) [.ret (.op2 .ix (.lst (.cons (.op2 .add (.var 1) (.con (.int 1))) (.cons (.op2 .sub (.var 1) (.con (.int 1))) (.cons (.bi .str (.cons (.var 1) .nil)) .nil)))) (.var 2))] [], .ret (.call 10 (.cons (.var 0) .nil))]
def brD : List CS := [.asg (.name 3) (.call 8 (.cons (.var 0) (.cons (.bi .sorted (.cons (.var 1) .nil)) .nil))), .asg (.name 4) (.bi .dict (.cons (.compk [8] (.name 8) 1 (.some (.cmp .ne (.var 8) (.var 3))) (.tup (.cons (.var 8) (.cons (.op2 .ix (.var 1) (.var 8)) .nil)))) .nil)), .ite (.cmp .gt (.var 2) (.con (.int 0))) [.asg (.name 7) (.op2 .ix (.lst (.cons (.var 3) (.cons (.var 3) (.cons (.op2 .add (.var 3) (.con (.str "a"))) (.cons (.upper (.var 3)) (.cons (.var 3) .nil)))))) (.var 2)), .dset 4 (.var 7) (.ifx (.cmp .isin (.var 2) (.tup (.cons (.con (.int 1)) (.cons (.con (.int 4)) .nil)))) (.call 11 (.cons (.var 0) (.cons (.op2 .ix (.var 1) (.var 3)) .nil))) (.op2 .ix (.var 1) (.var 3)))] [], .ret (.var 4)]
def bentSp (n : Nat) : DSp := fun β ds Q => ∃ (b : Bag) (k w m : Nat) (d : D), β = some b ∧ ds = [.opq (.ref b.1), d] ∧ m < n ∧ k ≤ 40 ∧ w ≤ 1000000 ∧ m ≤ 40 ∧ Val k w m d ∧ ∀ d', Val (k + 1) (3 * w + 100000) (m + 12) d' → Q (.fz d') ∧ Q (.ow d')
theorem kb_non : kitB "NoneType" "dict" = some false ∧ kitB "NoneType" "list" = some false ∧ kitB "NoneType" "tuple" = some false ∧ kitB "NoneType" "str" = some false ∧ kitB "NoneType" "int" = some false := by decide +kernel
theorem kb_bl : kitB "bool" "dict" = some false ∧ kitB "bool" "list" = some false ∧ kitB "bool" "tuple" = some false ∧ kitB "bool" "str" = some false ∧ kitB "bool" "int" = some true ∧ kitB "bool" "bool" = some true := by decide +kernel
theorem kb_int : kitB "int" "dict" = some false ∧ kitB "int" "list" = some false ∧ kitB "int" "tuple" = some false ∧ kitB "int" "str" = some false ∧ kitB "int" "int" = some true ∧ kitB "int" "bool" = some false := by decide +kernel
theorem kb_str : kitB "str" "dict" = some false ∧ kitB "str" "list" = some false ∧ kitB "str" "tuple" = some false ∧ kitB "str" "str" = some true := by decide +kernel
theorem kb_lst : kitB "list" "dict" = some false ∧ kitB "list" "list" = some true ∧ kitB "list" "tuple" = some false ∧ kitB "list" "str" = some false ∧ kitB "list" "int" = some false := by decide +kernel
theorem kb_tup : kitB "tuple" "dict" = some false ∧ kitB "tuple" "list" = some false ∧ kitB "tuple" "tuple" = some true ∧ kitB "tuple" "str" = some false ∧ kitB "tuple" "int" = some false := by decide +kernel
theorem kb_dct : kitB "dict" "dict" = some true ∧ kitB "dict" "list" = some false ∧ kitB "dict" "tuple" = some false ∧ kitB "dict" "str" = some false ∧ kitB "dict" "int" = some false := by decide +kernel
theorem isiA_f {d : D} (h1 : isiB d "list" = some false) (h2 : isiB d "tuple" = some false) : isiA d ["list", "tuple"] = some false := by
  rw [isiA, h1]
  show isiA d ["tuple"] = some false
  rw [isiA, h2]
  rfl
theorem isiA_l {d : D} (h1 : isiB d "list" = some true) : isiA d ["list", "tuple"] = some true := by
  rw [isiA, h1]
theorem isiA_t {d : D} (h1 : isiB d "list" = some false) (h2 : isiB d "tuple" = some true) : isiA d ["list", "tuple"] = some true := by
  rw [isiA, h1]
  show isiA d ["tuple"] = some true
  rw [isiA, h2]
theorem strOk_app {x y : Str} (hx : PyData.strOk x = true) (hy : PyData.strOk y = true) : PyData.strOk (x ++ y) = true := by
  unfold PyData.strOk at *
  rw [Array.all_eq_true_iff_forall_mem] at *
  intro c hc
  have hc : c ∈ x.cps ++ y.cps := hc
  rcases Array.mem_append.mp hc with h | h
  · exact hx c h
  · exact hy c h
theorem strOk_cut {x : Str} (hx : PyData.strOk x = true) (lo hi : Option Int) : PyData.strOk (cutS x lo hi) = true ∧ (cutS x lo hi).length ≤ x.length := by
  unfold PyData.strOk at *
  rw [Array.all_eq_true_iff_forall_mem] at *
  constructor
  · intro c hc
    unfold cutS at hc
    have hc := List.mem_of_mem_drop (List.mem_of_mem_take (List.mem_toArray.mp hc))
    exact hx c (Array.mem_toList_iff.mp hc)
  · show (cutS x lo hi).cps.size ≤ x.cps.size
    unfold cutS
    rw [List.size_toArray, List.length_take, List.length_drop, Array.length_toList]
    omega
theorem strOk_of (s : String) : PyData.strOk (Str.ofString s) = true := by
  unfold PyData.strOk
  rw [Array.all_eq_true_iff_forall_mem]
  intro c hc
  have hc := Array.mem_toList_iff.mpr hc
  rw [signs_ofString] at hc
  obtain ⟨ch, _, rfl⟩ := List.mem_map.mp hc
  have := ch.valid
  rw [decide_eq_true_eq]
  have h2 : ch.toNat < 1114112 := by
    rcases this with h | ⟨_, h⟩
    · exact Nat.lt_trans h (by decide)
    · exact h
  exact h2
theorem rtE {b : Bag} {Q : R → Prop} {E : En} (hE : E.rt = (finE (some b) Q).rt) {d : D} {ρ : Sta} (hb : ρ.bag = some b) (q : Q (.fz d)) : E.rt (.fz d) ρ := by
  rw [hE]
  exact ⟨hb, q⟩
section
variable {b : Bag} {k w m : Nat} {d : D} {way : Int} {Q : R → Prop} (hq : ∀ d', Val (k + 1) (3 * w + 100000) (m + 12) d' → Q (.fz d') ∧ Q (.ow d'))
include hq
theorem odd_tail {E : En} (hE : E.rt = (finE (some b) Q).rt) (t10 : T.fn 10 = oddSp) {s2 s3 s4 s5 s6 s7 s8 : M} : evB T [.ret (.call 10 (.cons (.var 0) .nil))] ⟨[.fz (.opq (.ref b.1)), .fz d, s2, s3, s4, s5, s6, s7, s8], some b⟩ E := by
  show T.fn 10 (some b) [.opq (.ref b.1)] _
  rw [t10]
  exact ⟨b, rfl, rfl, fun x hx => ifS (rtE hE rfl (hq x (hx.mono (Nat.zero_le _) (by omega) (by omega))).1)⟩
theorem brA_odd {E : En} (hE : E.rt = (finE (some b) Q).rt) (t10 : T.fn 10 = oddSp) (hs : isiB d "str" = some false) (hi : isiB d "int" = some false) {s3 s4 s5 s6 s7 s8 : M} : evB T brA ⟨[.fz (.opq (.ref b.1)), .fz d, .fz (.int way), s3, s4, s5, s6, s7, s8], some b⟩ E := by
  refine Exists.intro false (And.intro hs ?_)
  refine Exists.intro false (And.intro rfl ?_)
  refine Exists.intro false (And.intro hi ?_)
  refine Exists.intro false (And.intro rfl ?_)
  exact odd_tail hq hE t10
theorem brA_bl {E : En} (hE : E.rt = (finE (some b) Q).rt) (t10 : T.fn 10 = oddSp) {x : Bool} {s3 s4 s5 s6 s7 s8 : M} : evB T brA ⟨[.fz (.opq (.ref b.1)), .fz (.bl x), .fz (.int way), s3, s4, s5, s6, s7, s8], some b⟩ E := by
  refine Exists.intro false (And.intro kb_bl.2.2.2.1 ?_)
  refine Exists.intro false (And.intro rfl ?_)
  refine Exists.intro true (And.intro kb_bl.2.2.2.2.1 ?_)
  refine Exists.intro true (And.intro rfl ?_)
  refine Exists.intro true (And.intro kb_bl.2.2.2.2.2 ?_)
  refine Exists.intro true (And.intro rfl ?_)
  exact odd_tail hq hE t10
theorem brA_int {E : En} (hE : E.rt = (finE (some b) Q).rt) (t10 : T.fn 10 = oddSp) (hk : k ≤ 40) {x : Int} (hv : Val k w m (.int x)) (w0 : 0 ≤ way) {s3 s4 s5 s6 s7 s8 : M} : evB T brA ⟨[.fz (.opq (.ref b.1)), .fz (.int x), .fz (.int way), s3, s4, s5, s6, s7, s8], some b⟩ E := by
  have hg := hv.g
  rw [gd, decide_eq_true_eq] at hg
  refine Exists.intro false (And.intro kb_int.2.2.2.1 ?_)
  refine Exists.intro false (And.intro rfl ?_)
  refine Exists.intro true (And.intro kb_int.2.2.2.2.1 ?_)
  refine Exists.intro true (And.intro rfl ?_)
  refine Exists.intro false (And.intro kb_int.2.2.2.2.2 ?_)
  refine Exists.intro false (And.intro rfl ?_)
  show (if decide (way < 3) = true then _ else _)
  refine ifB (fun h => ?_) fun h => ?_
  · have h : decide (way < 3) = true := h
    rw [decide_eq_true_eq] at h
    have h40 := ten40 (b := k) (by omega) hg
    refine And.intro ?_ ?_
    · by_cases h0 : x.natAbs = 0
      · rw [h0]; decide
      · rw [Nat.log2_lt h0]
        exact Nat.lt_of_lt_of_le h40 (by decide +kernel)
    refine And.intro (by rw [sizeLine_eq]; simp) ?_
    have : way = 0 ∨ way = 1 ∨ way = 2 := by omega
    rcases this with rfl | rfl | rfl
    · refine Exists.intro _ (And.intro rfl (rtE hE rfl (hq _ ⟨?_, ?_, Nat.zero_le _⟩).1))
      · rw [gd, decide_eq_true_eq]; omega
      · rw [wt]; omega
    · refine Exists.intro _ (And.intro rfl (rtE hE rfl (hq _ ⟨?_, ?_, Nat.zero_le _⟩).1))
      · rw [gd, decide_eq_true_eq]; omega
      · rw [wt]; omega
    · refine Exists.intro _ (And.intro rfl (rtE hE rfl (hq _ ⟨?_, ?_, Nat.zero_le _⟩).1))
      · rw [gd]; exact strOk_of _
      · rw [wt, PySem.ofString_length]
        have := int_text_length_le10 (k := 40) (by decide) h40
        omega
  · exact odd_tail hq hE t10
theorem brA_str {E : En} (hE : E.rt = (finE (some b) Q).rt) (t10 : T.fn 10 = oddSp) (hw : w ≤ 1000000) {x : Str} (hv : Val k w m (.str x)) (w0 : 0 ≤ way) {s3 s4 s5 s6 s7 s8 : M} : evB T brA ⟨[.fz (.opq (.ref b.1)), .fz (.str x), .fz (.int way), s3, s4, s5, s6, s7, s8], some b⟩ E := by
  have hg := hv.g
  rw [gd] at hg
  have hl := hv.w
  rw [wt] at hl
  refine Exists.intro true (And.intro kb_str.2.2.2 ?_)
  refine Exists.intro true (And.intro rfl ?_)
  show (if decide (way < 3) = true then _ else _)
  refine ifB (fun h => ?_) fun h => ?_
  · have h : decide (way < 3) = true := h
    rw [decide_eq_true_eq] at h
    have la : Str.length "a" = 1 := by decide +kernel
    refine And.intro (by rw [sizeLine_eq, la]; omega) ?_
    refine And.intro (by rw [sizeLine_eq]; omega) ?_
    refine And.intro (by rw [sizeLine_eq]; simp) ?_
    have : way = 0 ∨ way = 1 ∨ way = 2 := by omega
    rcases this with rfl | rfl | rfl
    · refine Exists.intro _ (And.intro rfl (rtE hE rfl (hq _ ⟨?_, ?_, Nat.zero_le _⟩).1))
      · rw [gd]; exact strOk_app hg (strOk_of _)
      · rw [wt, strLen_append, la]; omega
    · obtain ⟨c1, c2⟩ := strOk_cut hg none (some (-1))
      refine Exists.intro _ (And.intro rfl (rtE hE rfl (hq _ ⟨?_, ?_, Nat.zero_le _⟩).1))
      · rw [gd]; exact c1
      · rw [wt]; omega
    · refine Exists.intro _ (And.intro rfl (rtE hE rfl (hq _ ⟨?_, ?_, Nat.zero_le _⟩).1))
      · rw [gd]; exact strOk_of _
      · have : wt (.str "z") = 12 := by decide +kernel
        omega
  · refine Exists.intro false (And.intro (show kitB "str" "int" = some false by decide +kernel) ?_)
    refine Exists.intro false (And.intro rfl ?_)
    exact odd_tail hq hE t10
/-- the end of a list or tuple -/
theorem fin_ret {xs ys : List D} {c : Bool} (hc : (c = true ∧ d = .tup xs) ∨ (c = false ∧ d = .lst xs)) (g : gdA (k + 1) ys = true) (hw : wtA ys + 3 ≤ 3 * w + 100000) (hd : dpA ys + 1 ≤ m + 12) {s2 s3 s4 s5 s7 s8 : M} :
    evB T [.ret (.ifx (.val (.bi .isi (.cons (.var 1) (.cons (.tyc "tuple") .nil)))) (.bi .tuple (.cons (.var 6) .nil)) (.var 6))] ⟨[.fz (.opq (.ref b.1)), .fz d, s2, s3, s4, s5, .ow (.lst ys), s7, s8], some b⟩ (finE (some b) Q) := by
  rcases hc with ⟨rfl, rfl⟩ | ⟨rfl, rfl⟩
  · refine Exists.intro true (And.intro kb_tup.2.2.1 ?_)
    refine Exists.intro true (And.intro rfl ?_)
    exact ⟨rfl, (hq _ (.tup g hw hd)).1⟩
  · refine Exists.intro false (And.intro kb_lst.2.2.1 ?_)
    refine Exists.intro false (And.intro rfl ?_)
    exact ⟨rfl, (hq _ (.lst g hw hd)).2⟩
theorem seq_ev {n : Nat} (t6 : T.fn 6 = takeSp) (t11 : T.fn 11 = bentSp n) {xs : List D} {c : Bool} (hc : (c = true ∧ d = .tup xs) ∨ (c = false ∧ d = .lst xs)) (hv : Val k w m d) (hn : m < n + 1) (hk : k ≤ 40) (hw : w ≤ 1000000) (hm : m ≤ 40) (h0 : 0 < xs.length) {s3 s4 s5 s6 s7 s8 : M} :
    evB T (bd_l_bent.drop 3) ⟨[.fz (.opq (.ref b.1)), .fz d, .fz (.int way), s3, s4, s5, s6, s7, s8], some b⟩ (finE (some b) Q) := by
  obtain ⟨hi, hwt, hgd, hdp⟩ := hv.items (xs := xs) (by rcases hc with ⟨_, h⟩ | ⟨_, h⟩; exact .inr h; exact .inl h)
  have hlen := wtA_len xs
  have gA : gdA (k + 1) xs = true := gdA_mono (by omega) hgd
  have rest : ∀ j : Nat, j < xs.length → evB T (bd_l_bent.drop 4) ⟨[.fz (.opq (.ref b.1)), .fz d, .fz (.int way), s3, s4, .fz (.int (j : Int)), .ow (.lst xs), s7, s8], some b⟩ (finE (some b) Q) := fun j hj => by
    have hx := List.getElem_mem hj
    have hjx : xs[j]? = some xs[j] := List.getElem?_eq_getElem hj
    refine And.intro (.inl ⟨rfl, rfl⟩) ?_
    refine ifB (fun h => ?_) fun h => ?_
    · refine And.intro ⟨_, rfl⟩ ?_
      refine And.intro (by omega) (And.intro (by omega) ?_)
      refine Exists.intro j (Exists.intro xs[j] (And.intro ?_ (And.intro hjx ?_)))
      · unfold seqIndex?
        simp
        omega
      · refine fin_ret hq hc (gdA_iff.mpr fun y hy => gdA_iff.mp gA y (List.mem_of_mem_eraseIdx hy)) ?_ ?_
        · have := wtA_erase xs j; omega
        · have : dpA (xs.eraseIdx j) ≤ dpA xs := dpA_le.mpr fun y hy => dpA_le.mp (Nat.le_refl _) y (List.mem_of_mem_eraseIdx hy)
          omega
    refine And.intro (.inl ⟨rfl, rfl⟩) ?_
    refine ifB (fun h => ?_) fun h => ?_
    · refine And.intro ⟨_, rfl⟩ ?_
      have key : ∀ (R : D → Prop), R xs[j] → ∃ y, atI xs (j : Int) = some y ∧ R y := fun R h => ⟨_, atN hjx, h⟩
      have fin : xs.length < sizeLine ∧ 0 ≤ (j : Int) ∧ (j : Int) < 2 ^ 63 ∧ evB T [.ret (.ifx (.val (.bi .isi (.cons (.var 1) (.cons (.tyc "tuple") .nil)))) (.bi .tuple (.cons (.var 6) .nil)) (.var 6))] ⟨[.fz (.opq (.ref b.1)), .fz d, .fz (.int way), s3, s4, .fz (.int (j : Int)), .ow (.lst (xs.take (j : Int).toNat ++ [xs[j]] ++ xs.drop (j : Int).toNat)), s7, s8], some b⟩ (finE (some b) Q) := by
        refine ⟨by rw [sizeLine_eq]; omega, by omega, by omega, ?_⟩
        have e : wtA (xs.take (j : Int).toNat ++ [xs[j]] ++ xs.drop (j : Int).toNat) = wtA xs + (wt xs[j] + 2) := by
          have h2 := wtA_app (xs.take (j : Int).toNat) (xs.drop (j : Int).toNat)
          rw [List.take_append_drop] at h2
          rw [wtA_app, wtA_app, wtA, wtA]
          omega
        have mm : ∀ y ∈ xs.take (j : Int).toNat ++ [xs[j]] ++ xs.drop (j : Int).toNat, y ∈ xs := fun y hy => by
          rcases List.mem_append.mp hy with h | h
          · rcases List.mem_append.mp h with h | h
            · exact List.mem_of_mem_take h
            · rw [List.mem_singleton.mp h]; exact hx
          · exact List.mem_of_mem_drop h
        refine fin_ret hq hc (gdA_iff.mpr fun y hy => gdA_iff.mp gA y (mm y hy)) ?_ ?_
        · have := wtA_mem hx; omega
        · have : dpA (xs.take (j : Int).toNat ++ [xs[j]] ++ xs.drop (j : Int).toNat) ≤ dpA xs := dpA_le.mpr fun y hy => dpA_le.mp (Nat.le_refl _) y (mm y hy)
          omega
      rcases hc with ⟨rfl, rfl⟩ | ⟨rfl, rfl⟩
      · exact ⟨_, atN hjx, fin⟩
      · exact ⟨_, atN hjx, fin⟩
    refine And.intro (.inl ⟨rfl, rfl⟩) ?_
    refine ifB (fun h => ?_) fun h => ?_
    · rcases hc with ⟨rfl, rfl⟩ | ⟨rfl, rfl⟩
      · refine Exists.intro true (And.intro kb_tup.2.2.1 ?_)
        refine Exists.intro true (And.intro rfl ?_)
        exact ⟨rfl, (hq _ (.lst gA (by omega) (by omega))).2⟩
      · refine Exists.intro false (And.intro kb_lst.2.2.1 ?_)
        refine Exists.intro false (And.intro rfl ?_)
        exact ⟨rfl, (hq _ (.tup gA (by omega) (by omega))).1⟩
    · refine Exists.intro xs[j] (And.intro (atN hjx) ?_)
      show T.fn 11 (some b) [.opq (.ref b.1), xs[j]] _
      rw [t11]
      have hvx : Val k (wt xs[j]) (m - 1) xs[j] := ⟨(hi _ hx).1.g, Nat.le_refl _, (hi _ hx).1.d⟩
      have hm1 := (hi _ hx).2
      have hwx := wtA_mem hx
      refine ⟨b, k, wt xs[j], m - 1, xs[j], rfl, rfl, by omega, hk, by omega, by omega, hvx, fun y hy => ?_⟩
      have fin : evB T [.ret (.ifx (.val (.bi .isi (.cons (.var 1) (.cons (.tyc "tuple") .nil)))) (.bi .tuple (.cons (.var 6) .nil)) (.var 6))] ⟨[.fz (.opq (.ref b.1)), .fz d, .fz (.int way), s3, s4, .fz (.int (j : Int)), .ow (.lst (xs.set j y)), s7, s8], some b⟩ (finE (some b) Q) := by
        have e := wtA_set (y := y) hjx
        refine fin_ret hq hc (gdA_iff.mpr fun z hz => ?_) ?_ ?_
        · rcases List.mem_or_eq_of_mem_set hz with h | h
          · exact gdA_iff.mp gA z h
          · rw [h]; exact hy.g
        · have := hy.w; omega
        · have : dpA (xs.set j y) ≤ m + 11 := dpA_le.mpr fun z hz => by
            rcases List.mem_or_eq_of_mem_set hz with h | h
            · have := dpA_le.mp (Nat.le_refl _) z h; omega
            · rw [h]; have := hy.d; omega
          omega
      have ix : ixN xs.length (j : Int) = some j := by
        unfold ixN
        rw [if_pos (by omega), if_pos (by omega)]
        simp
      exact ⟨ifS ⟨⟨_, rfl⟩, j, ix, fin⟩, ⟨⟨_, rfl⟩, j, ix, fin⟩⟩
  have take : T.fn 6 (some b) [.opq (.ref b.1), .int (xs.length : Int)] fun z => match z with
      | .fz x => ∀ j : Nat, x = .int (j : Int) → j < xs.length → True
      | _ => True := by
    rw [t6]
    exact ⟨b, _, rfl, rfl, by omega, by omega, fun r _ _ => fun _ _ _ => trivial⟩
  rcases hc with ⟨rfl, rfl⟩ | ⟨rfl, rfl⟩
  all_goals
    show T.fn 6 (some b) [.opq (.ref b.1), .int (xs.length : Int)] _
    rw [t6]
    refine ⟨b, _, rfl, rfl, by omega, by omega, fun r r0 r1 => ?_⟩
    obtain ⟨j, rfl⟩ := Int.eq_ofNat_of_zero_le r0
    exact rest j (by omega)
end
end
end K62

set_option Elab.async false
set_option linter.all false
set_option autoImplicit false
set_option maxRecDepth 100000
set_option maxHeartbeats 4000000
/-! K62e: dicts bent. -/
namespace K62
open PySem PySem.Spec PyProof.Rows L2 DI
def asc (x : Str) : Bool := x.cps.toList.all fun c => decide (c < 128)
theorem isStr_of {d : D} (h : isStr d = true) : ∃ x, d = .str x ∧ asc x = true := by
  cases d with
  | str x => exact ⟨x, rfl, h⟩
  | _ => cases h
theorem asc_ok {x : Str} (h : asc x = true) : PyData.strOk x = true := by
  unfold asc at h
  unfold PyData.strOk
  rw [Array.all_eq_true_iff_forall_mem]
  intro c hc
  have := List.all_eq_true.mp h c (Array.mem_toList_iff.mpr hc)
  rw [decide_eq_true_eq] at this ⊢
  omega
theorem asc_app {x y : Str} (hx : asc x = true) (hy : asc y = true) : asc (x ++ y) = true := by
  unfold asc at *
  rw [show (x ++ y).cps.toList = x.cps.toList ++ y.cps.toList from Array.toList_append .., List.all_append, hx, hy]
  rfl
theorem up_asc : ∀ c, c < 128 → (Unicode.upperOf c).all (fun e => decide (e < 128)) = true := by decide +kernel
theorem asc_upper {x : Str} (hx : asc x = true) : asc (Txt.upper x) = true := by
  unfold asc at *
  rw [List.all_eq_true] at *
  intro c hc
  have hc : c ∈ (x.cps.mapIdx fun i c => (Unicode.upperOf c).toArray).flatten := Array.mem_toList_iff.mp hc
  rw [Array.mem_flatten] at hc
  obtain ⟨as, h1, h2⟩ := hc
  rw [Array.mem_mapIdx] at h1
  obtain ⟨i, hi, rfl⟩ := h1
  have := hx x.cps[i] (Array.mem_toList_iff.mpr (Array.getElem_mem hi))
  rw [decide_eq_true_eq] at this
  have h3 := List.all_eq_true.mp (up_asc _ this) c (by simpa using h2)
  exact h3
/-! ### a key taken out -/
def wo (kvs : List (D × D)) (x : Str) : List (D × D) := kvs.filter fun p => !decide (keyD p.1 = some (.inr x))
theorem wo_mem {kvs : List (D × D)} {x : Str} {p : D × D} (h : p ∈ wo kvs x) : p ∈ kvs := (List.mem_filter.mp h).1
theorem wo_wt {kvs : List (D × D)} {x : Str} {p : D × D} (h : p ∈ kvs) (hk : keyD p.1 = some (.inr x)) : wtK (wo kvs x) + (wt p.1 + wt p.2 + 4) ≤ wtK kvs ∧ (wo kvs x).length + 1 ≤ kvs.length := by
  induction kvs with
  | nil => cases h
  | cons q kvs ih =>
    obtain ⟨a, v⟩ := q
    have le : wtK (wo kvs x) ≤ wtK kvs := by
      clear ih h
      induction kvs with
      | nil => exact Nat.le_refl _
      | cons q kvs ih =>
        obtain ⟨a, v⟩ := q
        unfold wo at ih ⊢
        rw [List.filter_cons]
        split
        · rw [wtK, wtK]; omega
        · rw [wtK]; omega
    have ll : (wo kvs x).length ≤ kvs.length := List.length_filter_le ..
    unfold wo at *
    rw [List.filter_cons]
    rcases List.mem_cons.mp h with rfl | h
    · have hk : keyD a = some (.inr x) := hk
      simp only [hk, decide_true, Bool.not_true]
      rw [if_neg (by decide), wtK, List.length_cons]
      show wtK _ + (wt a + wt v + 4) ≤ _ ∧ _
      omega
    · have := ih h
      split
      · rw [wtK, wtK, List.length_cons, List.length_cons]; omega
      · rw [wtK, List.length_cons]; omega
theorem valD_mem {kvs : List (D × D)} (hn : (kvs.map fun p => keyD p.1).Nodup) {p : D × D} (h : p ∈ kvs) {k : Key} (hk : keyD p.1 = some k) : valD kvs k = some p.2 := by
  induction kvs with
  | nil => cases h
  | cons q kvs ih =>
    obtain ⟨a, v⟩ := q
    rw [List.map_cons, List.nodup_cons] at hn
    rw [valD]
    rcases List.mem_cons.mp h with rfl | h
    · rw [if_pos hk]
    · rw [if_neg fun z => hn.1 (List.mem_map.mpr ⟨p, h, by rw [hk]; exact z.symm⟩)]
      exact ih hn.2 h
theorem keys_ex {b : Nat} {kvs : List (D × D)} (g : gdK b kvs = true) : ∃ ks : List Str, kvs.map (·.1) = ks.map D.str ∧ ∀ x ∈ ks, asc x = true ∧ ∃ p ∈ kvs, p.1 = .str x := by
  induction kvs with
  | nil => exact ⟨[], rfl, fun _ h => nomatch h⟩
  | cons q kvs ih =>
    obtain ⟨a, v⟩ := q
    rw [gdK, Bool.and_eq_true, Bool.and_eq_true, Bool.and_eq_true] at g
    obtain ⟨x, rfl, hx⟩ := isStr_of g.1.1.1
    obtain ⟨ks, e, h⟩ := ih g.2
    refine ⟨x :: ks, by rw [List.map_cons, List.map_cons, e], fun y hy => ?_⟩
    rcases List.mem_cons.mp hy with rfl | hy
    · exact ⟨hx, _, List.mem_cons_self, rfl⟩
    · obtain ⟨h1, p, h2, h3⟩ := h y hy
      exact ⟨h1, p, List.mem_cons_of_mem _ h2, h3⟩
def fwo (kvs : List (D × D)) (x : Str) : D → Option D
  | .str y => if y = x then none else some (.tup [.str y, (valD kvs (.inr y)).getD .non])
  | _ => none
theorem fwo_eq {b : Nat} {all : List (D × D)} {x : Str} (hn : (all.map fun p => keyD p.1).Nodup) : ∀ {kvs : List (D × D)}, gdK b kvs = true → (∀ p ∈ kvs, p ∈ all) → (kvs.map (·.1)).filterMap (fwo all x) = (wo kvs x).map fun p => D.tup [p.1, p.2]
  | [], _, _ => rfl
  | (a, v) :: kvs, g, hm => by
    rw [gdK, Bool.and_eq_true, Bool.and_eq_true, Bool.and_eq_true] at g
    obtain ⟨y, rfl, hx⟩ := isStr_of g.1.1.1
    have ih := fwo_eq (x := x) hn g.2 fun p hp => hm p (List.mem_cons_of_mem _ hp)
    have hv := valD_mem hn (hm _ List.mem_cons_self) (k := .inr y) rfl
    rw [List.map_cons, List.filterMap_cons]
    unfold wo at ih ⊢
    rw [List.filter_cons]
    have e1 : fwo all x (.str y) = if y = x then none else some (.tup [.str y, v]) := by
      show (if y = x then none else some (D.tup [.str y, (valD all (.inr y)).getD .non])) = _
      rw [hv]
      rfl
    have e1' : fwo all x ((D.str y, v) : D × D).1 = if y = x then none else some (.tup [.str y, v]) := e1
    rw [e1']
    have e2 : (keyD (D.str y) = some (Sum.inr x)) ↔ y = x := by
      show some (Sum.inr y) = some (Sum.inr x) ↔ _
      constructor
      · intro h; injection h with h; injection h
      · intro h; rw [h]
    have e3 : (!decide (keyD ((D.str y, v) : D × D).1 = some (Sum.inr x))) = !decide (y = x) := by
      rw [Bool.eq_iff_iff]
      simp [e2]
    rw [e3]
    by_cases e : y = x
    · rw [if_pos e, decide_eq_true e, if_neg (by decide)]
      exact ih
    · rw [if_neg e, decide_eq_false e, if_pos (by decide : (!false) = true), List.map_cons, ← ih]
theorem wo_merge {b : Nat} {kvs : List (D × D)} {x : Str} (g : gdK b kvs = true) (hn : (kvs.map fun p => keyD p.1).Nodup) : ∃ ms : List (Key × D), (wo kvs x).map (fun p => D.tup [p.1, p.2]) = ms.map (fun p => D.tup [kD p.1, p.2]) ∧ mergeDD [] ms = wo kvs x := by
  have hs : ∀ p ∈ wo kvs x, ∃ y, p.1 = .str y := fun p hp => by
    obtain ⟨y, e, _⟩ := isStr_of (gdK_iff.mp g p (wo_mem hp)).1
    exact ⟨y, e⟩
  have hn2 : ((wo kvs x).map fun p => keyD p.1).Nodup := List.Nodup.sublist (List.Sublist.map _ List.filter_sublist) hn
  generalize wo kvs x = l at hs hn2
  refine ⟨l.map fun p => ((keyD p.1).getD (.inl 0), p.2), ?_, ?_⟩
  · rw [List.map_map]
    refine List.map_congr_left fun p hp => ?_
    obtain ⟨y, e⟩ := hs p hp
    simp only [Function.comp, e]
    rfl
  · rw [mergeDD_fresh]
    · rw [List.nil_append, List.map_map]
      conv => rhs; rw [← List.map_id l]
      refine List.map_congr_left fun p hp => ?_
      obtain ⟨y, e⟩ := hs p hp
      obtain ⟨p1, p2⟩ := p
      simp only at e
      subst e
      rfl
    · rw [List.map_nil, List.nil_append, List.map_map]
      have : (l.map ((fun p : Key × D => some p.1) ∘ fun p : D × D => ((keyD p.1).getD (.inl 0), p.2))) = l.map fun p => keyD p.1 := List.map_congr_left fun p hp => by
        obtain ⟨y, e⟩ := hs p hp
        simp only [Function.comp, e]
        rfl
      rw [this]
      exact hn2
section
variable {T : Tb} {b : Bag} {k w m n : Nat} {kvs : List (D × D)} {way : Int} {Q : R → Prop}
theorem dct_ev (t8 : T.fn 8 = oneSp) (t11 : T.fn 11 = bentSp n) (hq : ∀ d', Val (k + 1) (3 * w + 100000) (m + 12) d' → Q (.fz d') ∧ Q (.ow d')) (hv : Val k w m (.dct kvs)) (hn : m < n + 1) (hk : k ≤ 40) (hw : w ≤ 1000000) (hm : m ≤ 40) (h0 : 0 < kvs.length) (w0 : 0 ≤ way) (w5 : way < 5) {E : En} (hE : E.rt = (finE (some b) Q).rt) :
    evB T brD ⟨[.fz (.opq (.ref b.1)), .fz (.dct kvs), .fz (.int way), .un, .un, .un, .un, .un, .un], some b⟩ E := by
  have hg := hv.g
  rw [gd, Bool.and_eq_true, Bool.and_eq_true, decide_eq_true_eq] at hg
  obtain ⟨⟨g1, g2⟩, g3⟩ := hg
  rw [ndK_iff] at g3
  have hwt := hv.w
  rw [wt] at hwt
  have hdp := hv.d
  rw [dp] at hdp
  obtain ⟨ks, e1, e2⟩ := keys_ex g1
  have hkl : ks.length = kvs.length := by
    have := congrArg List.length e1
    simpa using this.symm
  refine Exists.intro ks (And.intro e1 (And.intro (by omega) fun ys hp _ => ?_))
  show T.fn 8 (some b) [.opq (.ref b.1), .lst (ys.map D.str)] _
  rw [t8]
  have hyl := hp.length_eq
  refine ⟨b, _, _, rfl, rfl, .inl rfl, fun z => by rw [List.map_eq_nil_iff] at z; rw [z] at hyl; simp at hyl; omega, by rw [List.length_map]; omega, fun d hd => ?_⟩
  obtain ⟨x, hx, rfl⟩ := List.mem_map.mp hd
  obtain ⟨hax, p, hp1, hp2⟩ := e2 x (hp.mem_iff.mp hx)
  obtain ⟨px, pv⟩ := p
  have hp2 : px = .str x := hp2
  subst hp2
  have hval := valD_mem g3 hp1 (k := .inr x) rfl
  obtain ⟨f1, f2⟩ := wo_wt hp1 (x := x) rfl
  have f1 : wtK (wo kvs x) + (wt (.str x) + wt pv + 4) ≤ wtK kvs := f1
  have hwx : wt (.str x) = 10 * x.length + 2 := by rw [wt]
  obtain ⟨ms, m1, m2⟩ := wo_merge (x := x) g1 g3
  have hgp := (gdK_iff.mp g1 _ hp1)
  have hdv : dp pv + 1 ≤ m := by
    have := dpK_le.mp (Nat.le_refl (dpK kvs)) _ hp1
    have : dp pv ≤ dpK kvs := this
    omega
  -- the comprehension
  refine compF (ρ := ⟨[.fz (.opq (.ref b.1)), .fz (.dct kvs), .fz (.int way), .fz (.str x), .un, .un, .un, .un, .un], some b⟩) (fwo kvs x) (by rw [List.length_map, sizeLine_eq]; simp; omega) (fun d hd k hk => ?_) ?_
  · obtain ⟨q, hq1, rfl⟩ := List.mem_map.mp hd
    obtain ⟨y, hy, _⟩ := isStr_of (gdK_iff.mp g1 q hq1).1
    rw [hy] at hk ⊢
    refine And.intro (.inl ⟨rfl, rfl⟩) ?_
    have hk : k (if y = x then none else some (.tup [.str y, (valD kvs (.inr y)).getD .non])) _ := hk
    have hvy := valD_mem g3 hq1 (k := .inr y) (by rw [hy]; rfl)
    rw [hvy] at hk
    refine ifB (fun h => ?_) fun h => ?_
    · have h : (!eqD (.str y) (.str x)) = true := h
      rw [eqD_str] at h
      have h : ¬ y = x := by simpa using h
      rw [if_neg h] at hk
      refine Exists.intro q.2 (And.intro hvy ?_)
      refine And.intro (by rw [sizeLine_eq]; simp) ?_
      exact hk
    · have h : (!eqD (.str y) (.str x)) = false := h
      rw [eqD_str] at h
      have h : y = x := by simpa using h
      rw [if_pos h] at hk
      exact hk
  rw [fwo_eq (x := x) g3 g1 fun p hp => hp, List.nil_append, m1]
  refine Exists.intro ms (And.intro rfl ?_)
  rw [m2]
  have gw : ∀ p ∈ wo kvs x, isStr p.1 = true ∧ gd (k + 1) p.1 = true ∧ gd (k + 1) p.2 = true := fun p hp => by
    obtain ⟨a1, a2, a3⟩ := gdK_iff.mp g1 p (wo_mem hp)
    exact ⟨a1, gd_mono (by omega) a2, gd_mono (by omega) a3⟩
  have dw : dpK (wo kvs x) ≤ dpK kvs := dpK_le.mpr fun p hp => dpK_le.mp (Nat.le_refl _) p (wo_mem hp)
  have ndw : ndK (wo kvs x) = true := by
    rw [ndK_iff]
    exact List.Nodup.sublist (List.Sublist.map _ List.filter_sublist) g3
  have fin : ∀ {l : List (D × D)} {s7 s8 : M}, gdK (k + 1) l = true → ndK l = true → l.length < 20 + (k + 1) → wtK l + 3 ≤ 3 * w + 100000 → dpK l + 1 ≤ m + 12 → evB T [.ret (.var 4)] ⟨[.fz (.opq (.ref b.1)), .fz (.dct kvs), .fz (.int way), .fz (.str x), .ow (.dct l), .un, .un, s7, s8], some b⟩ E := fun {l s7 s8} h1 h2 h3 h4 h5 => by
    show E.rt _ _
    rw [hE]
    refine ⟨rfl, (hq _ ⟨?_, ?_, ?_⟩).2⟩
    · rw [gd, h1, h2, decide_eq_true h3]; rfl
    · rw [wt]; exact h4
    · rw [dp]; exact h5
  show (if decide (0 < way) = true then _ else _)
  refine ifB (fun h => ?_) fun h => ?_
  · have h : decide (0 < way) = true := h
    rw [decide_eq_true_eq] at h
    have la : Str.length "a" = 1 := by decide +kernel
    refine And.intro (by rw [sizeLine_eq, la]; omega) ?_
    refine And.intro (by omega) ?_
    refine And.intro (by rw [sizeLine_eq]; simp) ?_
    have nm : ∃ z : Str, atI [D.str x, .str x, .str (x ++ "a"), .str (Txt.upper x), .str x] way = some (.str z) ∧ asc z = true ∧ z.length ≤ 3 * x.length + 1 := by
      have : way = 1 ∨ way = 2 ∨ way = 3 ∨ way = 4 := by omega
      rcases this with rfl | rfl | rfl | rfl
      · exact ⟨x, rfl, hax, by omega⟩
      · exact ⟨_, rfl, asc_app hax (by decide +kernel), by rw [strLen_append, la]; omega⟩
      · exact ⟨_, rfl, asc_upper hax, by have := len_upper x; omega⟩
      · exact ⟨x, rfl, hax, by omega⟩
    obtain ⟨z, z1, z2, z3⟩ := nm
    refine Exists.intro _ (And.intro z1 ?_)
    have done : ∀ {y : D} {s7 s8 : M}, gd (k + 1) y = true → wt y ≤ 3 * wt pv + 100000 → dp y ≤ m + 11 → evB T [.ret (.var 4)] ⟨[.fz (.opq (.ref b.1)), .fz (.dct kvs), .fz (.int way), .fz (.str x), .ow (.dct (putDD (wo kvs x) (.inr z) y)), .un, .un, s7, s8], some b⟩ E := fun {y s7 s8} y1 y2 y3 => by
      have hzs : isStr (.str z) = true := z2
      have hpw := putDD_wt (k := .inr z) (d := y) ndw
      have hwz : wt (kD (.inr z)) = 10 * z.length + 2 := by rw [kD, wt]
      have hpl := putDD_len (wo kvs x) (.inr z) y
      refine fin (gdK_iff.mpr fun p hp => ?_) (putDD_nd ndw) (by omega) (by omega) ?_
      · rcases putDD_mem hp with h | ⟨h | h, h2⟩
        · exact gw p h
        · obtain ⟨q, hq1, hq2⟩ := h
          rw [hq2, h2]
          exact ⟨(gw q hq1).1, (gw q hq1).2.1, y1⟩
        · rw [h, h2]
          exact ⟨hzs, asc_ok z2, y1⟩
      · have : dpK (putDD (wo kvs x) (.inr z) y) ≤ m + 11 := dpK_le.mpr fun p hp => by
          rcases putDD_mem hp with h | ⟨_, h2⟩
          · have := dpK_le.mp dw p h; omega
          · rw [h2]; exact y3
        omega
    refine And.intro (by rw [sizeLine_eq]; simp) ?_
    refine And.intro (.inl ⟨rfl, rfl⟩) ?_
    have hsz : (wo kvs x).length < sizeLine := by rw [sizeLine_eq]; omega
    refine ifB (fun h2 => ?_) fun h2 => ?_
    · refine Exists.intro pv (And.intro hval ?_)
      show T.fn 11 (some b) [.opq (.ref b.1), pv] _
      rw [t11]
      refine ⟨b, k, wt pv, m - 1, pv, rfl, rfl, by omega, hk, by omega, by omega, ⟨hgp.2.2, Nat.le_refl _, by omega⟩, fun y hy => ?_⟩
      have hyd := hy.d
      exact ⟨ifS ⟨⟨_, rfl⟩, hsz, done hy.g hy.w (by omega)⟩, ⟨⟨_, rfl⟩, hsz, done hy.g hy.w (by omega)⟩⟩
    · refine Exists.intro pv (And.intro hval ?_)
      exact ⟨⟨_, rfl⟩, hsz, done (gd_mono (by omega) hgp.2.2) (by omega) (by omega)⟩
  · exact fin (gdK_iff.mpr gw) ndw (by omega) (by omega) (by omega)
theorem bent_ev (t6 : T.fn 6 = takeSp) (t8 : T.fn 8 = oneSp) (t10 : T.fn 10 = oddSp) (t11 : T.fn 11 = bentSp n) {β : Option Bag} {ds : List D} (h : bentSp (n + 1) β ds Q) : evB T bd_l_bent (sta 9 ds β) (finE β Q) := by
  obtain ⟨b, k, w, m, d, rfl, rfl, hn, hk, hw, hm, hv, hq⟩ := h
  show evB T _ ⟨[.fz (.opq (.ref b.1)), .fz d, .un, .un, .un, .un, .un, .un, .un], some b⟩ _
  show T.fn 6 (some b) [.opq (.ref b.1), .int 6] _
  rw [t6]
  refine ⟨b, _, rfl, rfl, by omega, by omega, fun way w0 w1 => ?_⟩
  -- what is no list, tuple, dict
  have flat : isiB d "dict" = some false → d.tyn.isSome = true → isiB d "list" = some false → isiB d "tuple" = some false → (∀ E : En, E.rt = (finE (some b) Q).rt → evB T brA ⟨[.fz (.opq (.ref b.1)), .fz d, .fz (.int way), .un, .un, .un, .un, .un, .un], some b⟩ E) →
      evB T (bd_l_bent.drop 1) ⟨[.fz (.opq (.ref b.1)), .fz d, .fz (.int way), .un, .un, .un, .un, .un, .un], some b⟩ (finE (some b) Q) := fun h1 h2 h3 h4 h5 => by
    refine Exists.intro false (And.intro h1 ?_)
    refine Exists.intro false (And.intro rfl ?_)
    refine And.intro (by rw [sizeLine_eq]; simp) ?_
    refine Exists.intro ["list", "tuple"] (Exists.intro false (And.intro rfl (And.intro h2 (And.intro (isiA_f h3 h4) ?_))))
    refine Exists.intro false (And.intro rfl ?_)
    exact h5 _ rfl
  have seq : ∀ {xs : List D} {c : Bool}, ((c = true ∧ d = .tup xs) ∨ (c = false ∧ d = .lst xs)) → evB T (bd_l_bent.drop 1) ⟨[.fz (.opq (.ref b.1)), .fz d, .fz (.int way), .un, .un, .un, .un, .un, .un], some b⟩ (finE (some b) Q) := fun {xs c} hc => by
    have rest := fun (h0 : 0 < xs.length) => seq_ev (b := b) (way := way) hq t6 t11 hc hv hn hk hw hm h0 (s3 := .un) (s4 := .un) (s5 := .un) (s6 := .un) (s7 := .un) (s8 := .un)
    rcases hc with ⟨rfl, rfl⟩ | ⟨rfl, rfl⟩
    all_goals
      refine Exists.intro false (And.intro (by first | exact kb_tup.1 | exact kb_lst.1) ?_)
      refine Exists.intro false (And.intro rfl ?_)
      refine And.intro (by rw [sizeLine_eq]; simp) ?_
      refine Exists.intro ["list", "tuple"] (Exists.intro true (And.intro rfl (And.intro rfl (And.intro (by first | exact isiA_t kb_tup.2.1 kb_tup.2.2.1 | exact isiA_l kb_lst.2.1) ?_))))
      refine Exists.intro true (And.intro rfl ?_)
      refine And.intro (.inl ⟨rfl, rfl⟩) ?_
      show (if eqD (.int (xs.length : Int)) (.int 0) = true then _ else _)
      refine ifB (fun h => ?_) fun h => ?_
      · exact brA_odd hq rfl t10 (by first | exact kb_tup.2.2.2.1 | exact kb_lst.2.2.2.1) (by first | exact kb_tup.2.2.2.2 | exact kb_lst.2.2.2.2)
      rw [eqD_int, decide_eq_false_iff_not] at h
      refine And.intro (.inl ⟨rfl, rfl⟩) ?_
      show (if eqD (.int way) (.int 5) = true then _ else _)
      refine ifB (fun h2 => ?_) fun h2 => ?_
      · exact brA_odd hq rfl t10 (by first | exact kb_tup.2.2.2.1 | exact kb_lst.2.2.2.1) (by first | exact kb_tup.2.2.2.2 | exact kb_lst.2.2.2.2)
      · exact rest (by omega)
  show evB T (bd_l_bent.drop 1) ⟨[.fz (.opq (.ref b.1)), .fz d, .fz (.int way), .un, .un, .un, .un, .un, .un], some b⟩ (finE (some b) Q)
  have hg := hv.g
  cases d with
  | non => exact flat kb_non.1 rfl kb_non.2.1 kb_non.2.2.1 fun E hE => brA_odd (d := .non) hq hE t10 kb_non.2.2.2.1 kb_non.2.2.2.2
  | bl x => exact flat kb_bl.1 rfl kb_bl.2.1 kb_bl.2.2.1 fun E hE => brA_bl hq hE t10
  | int x => exact flat kb_int.1 rfl kb_int.2.1 kb_int.2.2.1 fun E hE => brA_int hq hE t10 hk hv w0
  | str x => exact flat kb_str.1 rfl kb_str.2.1 kb_str.2.2.1 fun E hE => brA_str hq hE t10 hw hv w0
  | lst xs => exact seq (c := false) (.inr ⟨rfl, rfl⟩)
  | tup xs => exact seq (c := true) (.inl ⟨rfl, rfl⟩)
  | dct kvs =>
    refine Exists.intro true (And.intro kb_dct.1 ?_)
    refine Exists.intro true (And.intro rfl ?_)
    have other : ∀ E : En, E = finE (some b) Q → evB T (bd_l_bent.drop 2) ⟨[.fz (.opq (.ref b.1)), .fz (.dct kvs), .fz (.int way), .un, .un, .un, .un, .un, .un], some b⟩ E := fun E hE => by
      subst hE
      refine And.intro (by rw [sizeLine_eq]; simp) ?_
      refine Exists.intro ["list", "tuple"] (Exists.intro false (And.intro rfl (And.intro rfl (And.intro (isiA_f kb_dct.2.1 kb_dct.2.2.1) ?_))))
      refine Exists.intro false (And.intro rfl ?_)
      exact brA_odd (d := .dct kvs) hq rfl t10 kb_dct.2.2.2.1 kb_dct.2.2.2.2
    show (if decide ((0 : Int) < (kvs.length : Int)) = true then _ else _)
    refine ifB (fun h => ?_) fun h => ?_
    · rw [decide_eq_true_eq] at h
      show (if decide (way < 5) = true then _ else _)
      refine ifB (fun h5 => ?_) fun h5 => ?_
      · rw [decide_eq_true_eq] at h5
        exact dct_ev t8 t11 hq hv hn hk hw hm (by omega) w0 h5 rfl
      · exact other _ rfl
    · exact other _ rfl
  | opq _ => simp [gd] at hg
  | scr _ _ => simp [gd] at hg
  | dcn _ _ => simp [gd] at hg
end
end K62

set_option Elab.async false
set_option linter.all false
set_option autoImplicit false
set_option maxRecDepth 10000
set_option maxHeartbeats 400000
/-! K63a: torn logs as automata, in plain Lean. -/
namespace K63
open PySem
def star : Str := "*"
def ques : Str := "?"
def isStar (t : List Str) (p : Nat) : Bool := decide (t[p]? = some star)
def isHit (t : List Str) (w : Str) (p : Nat) : Bool := decide (t[p]? = some ques) || decide (t[p]? = some w)
/-- a set of spots, as its ascending list -/
def sp (n : Nat) (S : Nat → Bool) : List Nat := (List.range (n + 1)).filter S
def clo (t : List Str) (S : Nat → Bool) : Nat → Bool
  | 0 => S 0
  | p + 1 => S (p + 1) || (clo t S p && isStar t p)
/-- the spots behind a word -/
def nxt (t : List Str) (w : Str) (S : Nat → Bool) (q : Nat) : Bool := (S q && isStar t q) || (decide (0 < q) && S (q - 1) && isHit t w (q - 1))
def mem (l : List Nat) (q : Nat) : Bool := l.contains q
def fst (t : List Str) : List Nat := sp t.length (clo t (mem [0]))
def bw (t : List Str) (l : List Nat) (w : Str) : List Nat := sp t.length (clo t (nxt t w (mem l)))
theorem mem_sp {n : Nat} {S : Nat → Bool} {q : Nat} : q ∈ sp n S ↔ q ≤ n ∧ S q = true := by
  unfold sp
  rw [List.mem_filter, List.mem_range, Nat.lt_succ_iff]
theorem sp_sorted {n : Nat} {S : Nat → Bool} : (sp n S).Pairwise (· < ·) := List.Pairwise.filter _ List.pairwise_lt_range
theorem sorted_ext : ∀ {a b : List Nat}, a.Pairwise (· < ·) → b.Pairwise (· < ·) → (∀ x, x ∈ a ↔ x ∈ b) → a = b
  | [], [], _, _, _ => rfl
  | [], y :: b, _, _, h => absurd ((h y).mpr List.mem_cons_self) (List.not_mem_nil)
  | x :: a, [], _, _, h => absurd ((h x).mp List.mem_cons_self) (List.not_mem_nil)
  | x :: a, y :: b, ha, hb, h => by
    obtain ⟨ha1, ha2⟩ := List.pairwise_cons.mp ha
    obtain ⟨hb1, hb2⟩ := List.pairwise_cons.mp hb
    have e : x = y := by
      rcases List.mem_cons.mp ((h x).mp List.mem_cons_self) with e | e
      · exact e
      · rcases List.mem_cons.mp ((h y).mpr List.mem_cons_self) with e' | e'
        · exact e'.symm
        · have h1 := hb1 x e
          have h2 := ha1 y e'
          omega
    subst e
    congr 1
    refine sorted_ext ha2 hb2 fun z => ⟨fun hz => ?_, fun hz => ?_⟩
    · rcases List.mem_cons.mp ((h z).mp (List.mem_cons_of_mem _ hz)) with e | e
      · have := ha1 z hz
        omega
      · exact e
    · rcases List.mem_cons.mp ((h z).mpr (List.mem_cons_of_mem _ hz)) with e | e
      · have := hb1 z hz
        omega
      · exact e
theorem clo_iff {t : List Str} {S : Nat → Bool} : ∀ {p : Nat}, clo t S p = true ↔ ∃ q, q ≤ p ∧ S q = true ∧ ∀ j, q ≤ j → j < p → isStar t j = true
  | 0 => ⟨fun h => ⟨0, Nat.le_refl 0, h, fun j h1 h2 => absurd h2 (Nat.not_lt_zero j)⟩, fun ⟨q, h1, h2, _⟩ => by
      have : q = 0 := by omega
      subst this
      exact h2⟩
  | p + 1 => by
    rw [clo, Bool.or_eq_true, Bool.and_eq_true, clo_iff (p := p)]
    constructor
    · rintro (h | ⟨⟨q, h1, h2, h3⟩, h4⟩)
      · exact ⟨p + 1, Nat.le_refl _, h, fun j h1 h2 => by omega⟩
      · refine ⟨q, by omega, h2, fun j j1 j2 => ?_⟩
        by_cases e : j = p
        · rw [e]; exact h4
        · exact h3 j j1 (by omega)
    · rintro ⟨q, h1, h2, h3⟩
      by_cases e : q = p + 1
      · subst e
        exact .inl h2
      · exact .inr ⟨⟨q, by omega, h2, fun j j1 j2 => h3 j j1 (by omega)⟩, h3 p (by omega) (by omega)⟩
/-- a run over a log -/
def run (t : List Str) (l : List Nat) (ws : List Str) : List Nat := ws.foldl (bw t) l
def acc (t : List Str) (ws : List Str) : Bool := (run t (fst t) ws).contains t.length
/-- what both searches walk over -/
inductive Rch (W a b : List Str) : List Nat → List Nat → Prop
  | ini : Rch W a b (fst a) (fst b)
  | stp {x y : List Nat} {w : Str} : Rch W a b x y → w ∈ W → bw a x w ≠ [] → Rch W a b (bw a x w) (bw b y w)
def bad (a b : List Str) (x y : List Nat) : Prop := a.length ∈ x ∧ b.length ∉ y
/-- every log of words of W that a takes, b takes -/
def Les (W a b : List Str) : Prop := ∀ ws : List Str, (∀ w ∈ ws, w ∈ W) → acc a ws = true → acc b ws = true
theorem bw_nil (t : List Str) (w : Str) : bw t [] w = [] := by
  unfold bw
  rw [List.eq_nil_iff_forall_not_mem]
  intro q hq
  obtain ⟨_, h⟩ := mem_sp.mp hq
  obtain ⟨p, _, h2, _⟩ := clo_iff.mp h
  simp [nxt, mem] at h2
theorem run_nil (t : List Str) : ∀ ws : List Str, run t [] ws = []
  | [] => rfl
  | w :: ws => by
    show run t (bw t [] w) ws = []
    rw [bw_nil]
    exact run_nil t ws
theorem rch_run {W a b : List Str} : ∀ {ws : List Str} {x y : List Nat}, (∀ w ∈ ws, w ∈ W) → Rch W a b x y → run a x ws ≠ [] → Rch W a b (run a x ws) (run b y ws)
  | [], x, y, _, h, _ => h
  | w :: ws, x, y, hw, h, hn => by
    have hn' : bw a x w ≠ [] := fun e => hn (by show run a (bw a x w) ws = []; rw [e]; exact run_nil a ws)
    exact rch_run (ws := ws) (fun v hv => hw v (List.mem_cons_of_mem _ hv)) (.stp h (hw w List.mem_cons_self) hn') hn
theorem rch_log {W a b : List Str} {x y : List Nat} (h : Rch W a b x y) : ∃ ws : List Str, (∀ w ∈ ws, w ∈ W) ∧ x = run a (fst a) ws ∧ y = run b (fst b) ws := by
  induction h with
  | ini => exact ⟨[], fun w h => absurd h List.not_mem_nil, rfl, rfl⟩
  | @stp x y w h hw hn ih =>
    obtain ⟨ws, h1, h2, h3⟩ := ih
    refine ⟨ws ++ [w], fun v hv => ?_, ?_, ?_⟩
    · rcases List.mem_append.mp hv with q | q
      · exact h1 v q
      · rw [List.mem_singleton.mp q]; exact hw
    · unfold run at h2 ⊢
      rw [List.foldl_append, ← h2]
      rfl
    · unfold run at h3 ⊢
      rw [List.foldl_append, ← h3]
      rfl
theorem les_iff {W a b : List Str} : Les W a b ↔ ∀ x y, Rch W a b x y → ¬ bad a b x y := by
  constructor
  · rintro h x y r ⟨h1, h2⟩
    obtain ⟨ws, q1, rfl, rfl⟩ := rch_log r
    have := h ws q1 (by unfold acc; simpa using h1)
    unfold acc at this
    exact h2 (by simpa using this)
  · intro h ws hw ha
    unfold acc at ha ⊢
    have ha : a.length ∈ run a (fst a) ws := by simpa using ha
    have r := rch_run hw (.ini : Rch W a b _ _) (fun e => by rw [e] at ha; exact List.not_mem_nil ha)
    by_cases q : b.length ∈ run b (fst b) ws
    · simpa using q
    · exact absurd ⟨ha, q⟩ (h _ _ r)
theorem Les.trans {W a b c : List Str} (h1 : Les W a b) (h2 : Les W b c) : Les W a c := fun ws hw h => h2 ws hw (h1 ws hw h)
end K63

set_option Elab.async false
set_option linter.all false
set_option autoImplicit false
set_option maxRecDepth 10000
set_option maxHeartbeats 400000
/-! K63b: how many sets of spots there are. -/
namespace K63
open PySem
def subs : List Nat → List (List Nat)
  | [] => [[]]
  | x :: xs => subs xs ++ (subs xs).map (x :: ·)
theorem mem_subs {l xs : List Nat} (h : l.Sublist xs) : l ∈ subs xs := by
  induction h with
  | slnil => exact List.mem_singleton.mpr rfl
  | cons a h ih => exact List.mem_append_left _ ih
  | cons_cons a h ih => exact List.mem_append_right _ (List.mem_map.mpr ⟨_, ih, rfl⟩)
def shut (s : Nat) (l : List Nat) : Bool := !l.contains s || l.contains (s + 1)
def uni (s : Nat) : List (List Nat) := (subs (List.range 11)).filter (shut s)
theorem uni_len : ∀ s, s < 10 → (uni s).length = 1536 := by decide +kernel
def uni1 : List (List Nat) := [] :: (List.range 11).map fun q => [q]
theorem sub_range {l : List Nat} {n : Nat} (h1 : l.Pairwise (· < ·)) (h2 : ∀ q ∈ l, q < n) : l.Sublist (List.range n) := by
  have e : l = (List.range n).filter fun q => l.contains q := by
    refine sorted_ext h1 (List.Pairwise.filter _ List.pairwise_lt_range) fun x => ?_
    rw [List.mem_filter, List.mem_range]
    exact ⟨fun h => ⟨h2 x h, by simpa using h⟩, fun h => by simpa using h.2⟩
  rw [e]
  exact List.filter_sublist
theorem star_lt {t : List Str} {q : Nat} (h : isStar t q = true) : q < t.length := by
  unfold isStar at h
  rw [decide_eq_true_eq] at h
  exact (List.getElem?_eq_some_iff.mp h).1
/-- what holds of every set that is reached -/
structure Okk (t : List Str) (l : List Nat) : Prop where
  so : l.Pairwise (· < ·)
  le : ∀ q ∈ l, q ≤ t.length
  cl : ∀ q ∈ l, isStar t q = true → q + 1 ∈ l
  one : (∀ q, isStar t q = false) → l.length ≤ 1
theorem okk_clo {t : List Str} {S : Nat → Bool} (h : (∀ q, isStar t q = false) → ∀ p q, S p = true → S q = true → p = q) : Okk t (sp t.length (clo t S)) := by
  refine ⟨sp_sorted, fun q hq => (mem_sp.mp hq).1, fun q hq hs => ?_, fun hn => ?_⟩
  · obtain ⟨h1, h2⟩ := mem_sp.mp hq
    refine mem_sp.mpr ⟨star_lt hs, ?_⟩
    rw [clo, h2, hs]
    simp
  · have key : ∀ p ∈ sp t.length (clo t S), ∀ q ∈ sp t.length (clo t S), p = q := fun p hp q hq => by
      obtain ⟨_, hp⟩ := mem_sp.mp hp
      obtain ⟨_, hq⟩ := mem_sp.mp hq
      have red : ∀ p, clo t S p = true → S p = true := fun p hp => by
        obtain ⟨r, h1, h2, h3⟩ := clo_iff.mp hp
        by_cases e : r = p
        · rw [← e]; exact h2
        · have := h3 r (Nat.le_refl r) (by omega)
          rw [hn r] at this
          cases this
      exact h hn p q (red p hp) (red q hq)
    have so : (sp t.length (clo t S)).Pairwise (· < ·) := sp_sorted
    cases e : sp t.length (clo t S) with
    | nil => exact Nat.zero_le 1
    | cons x xs =>
      cases xs with
      | nil => exact Nat.le_refl 1
      | cons y ys =>
        rw [e] at key so
        have h1 := key x List.mem_cons_self y (List.mem_cons_of_mem _ List.mem_cons_self)
        have h2 := (List.pairwise_cons.mp so).1 y List.mem_cons_self
        omega
theorem okk_fst (t : List Str) : Okk t (fst t) := okk_clo fun _ p q hp hq => by
  simp [mem] at hp hq
  omega
theorem okk_bw {t : List Str} {l : List Nat} {w : Str} (h : Okk t l) : Okk t (bw t l w) := okk_clo fun hn p q hp hq => by
  have h1 := h.one hn
  have red : ∀ p, nxt t w (mem l) p = true → ∃ r, p = r + 1 ∧ r ∈ l := fun p hp => by
    unfold nxt at hp
    rw [hn p] at hp
    simp [mem] at hp
    exact ⟨p - 1, by omega, hp.1.2⟩
  obtain ⟨a, rfl, ha⟩ := red p hp
  obtain ⟨b, rfl, hb⟩ := red q hq
  cases l with
  | nil => exact absurd ha List.not_mem_nil
  | cons x xs =>
    cases xs with
    | nil => rw [List.mem_singleton.mp ha, List.mem_singleton.mp hb]
    | cons y ys => simp at h1
theorem okk_rch {W a b : List Str} {x y : List Nat} (h : Rch W a b x y) : Okk a x ∧ Okk b y := by
  induction h with
  | ini => exact ⟨okk_fst a, okk_fst b⟩
  | stp h hw hn ih => exact ⟨okk_bw ih.1, okk_bw ih.2⟩
theorem okk_uni {t : List Str} (ht : t.length ≤ 10) : ∃ U : List (List Nat), U.length ≤ 1536 ∧ ∀ l, Okk t l → l ∈ U := by
  by_cases hs : ∃ s, isStar t s = true
  · obtain ⟨s, hs⟩ := hs
    have hlt := star_lt hs
    refine ⟨uni s, Nat.le_of_eq (uni_len s (by omega)), fun l h => ?_⟩
    unfold uni
    rw [List.mem_filter]
    refine ⟨mem_subs (sub_range h.so fun q hq => by have := h.le q hq; omega), ?_⟩
    unfold shut
    by_cases e : s ∈ l
    · have := h.cl s e hs
      simp [this]
    · simp [e]
  · refine ⟨uni1, by decide, fun l h => ?_⟩
    have h1 := h.one fun q => by
      cases e : isStar t q with
      | false => rfl
      | true => exact absurd ⟨q, e⟩ hs
    unfold uni1
    cases l with
    | nil => exact List.mem_cons_self
    | cons x xs =>
      cases xs with
      | nil =>
        refine List.mem_cons_of_mem _ (List.mem_map.mpr ⟨x, List.mem_range.mpr ?_, rfl⟩)
        have := h.le x List.mem_cons_self
        omega
      | cons y ys => simp at h1
theorem nodup_le {α : Type} [DecidableEq α] : ∀ {l u : List α}, l.Nodup → (∀ x ∈ l, x ∈ u) → l.length ≤ u.length
  | [], u, _, _ => Nat.zero_le _
  | x :: l, u, h, hs => by
    obtain ⟨h1, h2⟩ := List.nodup_cons.mp h
    have hx : x ∈ u := hs x List.mem_cons_self
    have ih := nodup_le (u := u.erase x) h2 fun y hy => (List.mem_erase_of_ne (fun e : y = x => h1 (by rw [← e]; exact hy))).mpr (hs y (List.mem_cons_of_mem _ hy))
    have := List.length_erase_of_mem hx
    have := List.length_pos_of_mem hx
    rw [List.length_cons]
    omega
def prod (U V : List (List Nat)) : List (List Nat × List Nat) := U.flatMap fun x => V.map fun y => (x, y)
theorem prod_len : ∀ (U V : List (List Nat)), (prod U V).length = U.length * V.length
  | [], V => by simp [prod]
  | x :: U, V => by
    have ih := prod_len U V
    unfold prod at ih ⊢
    rw [List.flatMap_cons, List.length_append, ih, List.length_map, List.length_cons, Nat.succ_mul, Nat.add_comm]
/-- so many pairs at most -/
theorem pairs_le {a b : List Str} (ha : a.length ≤ 10) (hb : b.length ≤ 10) {l : List (List Nat × List Nat)} (hn : l.Nodup) (h : ∀ p ∈ l, Okk a p.1 ∧ Okk b p.2) : l.length ≤ 2359296 := by
  obtain ⟨U, u1, u2⟩ := okk_uni ha
  obtain ⟨V, v1, v2⟩ := okk_uni hb
  have := nodup_le (u := prod U V) hn fun p hp => by
    unfold prod
    rw [List.mem_flatMap]
    exact ⟨p.1, u2 _ (h p hp).1, List.mem_map.mpr ⟨p.2, v2 _ (h p hp).2, rfl⟩⟩
  rw [prod_len] at this
  have := Nat.mul_le_mul u1 v1
  omega
end K63

set_option Elab.async false
set_option linter.all false
set_option autoImplicit false
set_option maxRecDepth 100000
set_option maxHeartbeats 1000000
/-! K62f: torn logs as automata: the package's defs. -/
namespace K63
open PySem PySem.Spec PyProof.Rows L2 DI
def bd_on_from : List CS := [.asg (.name 2) (.lst .nil), .for_ (.name 3) (.range (.cons (.op2 .add (.bi .len (.cons (.var 0) .nil)) (.con (.int 1))) .nil)) [.ite (.or (.cmp .isin (.var 3) (.var 1)) (.and (.cmp .isin (.op2 .sub (.var 3) (.con (.int 1))) (.var 2)) (.cmp .eq (.op2 .ix (.var 0) (.op2 .sub (.var 3) (.con (.int 1)))) (.con (.str "*"))))) [.expr (.mut .append 2 (.cons (.var 3) .nil))] []], .ret (.bi .tuple (.cons (.var 2) .nil))]
def onSp : DSp := fun β ds Q => ∃ (t : List Str) (l : List Nat) (td sd : D), ds = [td, sd] ∧ IsS td t ∧ IsN sd l ∧ t.length ≤ 100 ∧ Q (.fz (.tup (nD (sp t.length (clo t (mem l))))))
/-- the spots below i -/
def bel (i : Nat) (S : Nat → Bool) : List Nat := (List.range i).filter S
theorem bel_succ (i : Nat) (S : Nat → Bool) : bel (i + 1) S = bel i S ++ (if S i = true then [i] else []) := by
  unfold bel
  rw [List.range_succ, List.filter_append]
  congr 1
  rw [List.filter_cons, List.filter_nil]
theorem mem_bel {i : Nat} {S : Nat → Bool} {q : Nat} : q ∈ bel i S ↔ q < i ∧ S q = true := by
  unfold bel
  rw [List.mem_filter, List.mem_range]
theorem bel_len (i : Nat) (S : Nat → Bool) : (bel i S).length ≤ i := by
  have := List.length_filter_le S (List.range i)
  rw [List.length_range] at this
  exact this
theorem star_eq {t : List Str} {j : Nat} (hj : j < t.length) : eqD (.str t[j]) (.str "*") = isStar t j := by
  rw [eqD_str, isStar, List.getElem?_eq_getElem hj, Bool.eq_iff_iff]
  simp [star]
theorem hit_eq {t : List Str} {w : Str} {j : Nat} (hj : j < t.length) : inD (.str t[j]) [.str "?", .str w] = isHit t w j := by
  show inD (.str t[j]) (sD ["?", w]) = _
  rw [inD_sD, isHit, List.getElem?_eq_getElem hj, Bool.eq_iff_iff]
  simp [ques]
theorem nD_app (a b : List Nat) : nD (a ++ b) = nD a ++ nD b := List.map_append ..
section
variable {T : Tb} {β : Option Bag}
theorem on_ev {ds : List D} {Q : R → Prop} (h : onSp β ds Q) : evB T bd_on_from (sta 4 ds β) (finE β Q) := by
  obtain ⟨t, l, td, sd, rfl, ht, hl, h100, q⟩ := h
  have app : ∀ i, nD (bel (i + 1) (clo t (mem l))) = nD (bel i (clo t (mem l))) ++ (if clo t (mem l) i = true then [.int (i : Int)] else []) := fun i => by
    rw [bel_succ, nD_app]
    cases clo t (mem l) i <;> rfl
  rcases ht with rfl | rfl <;> rcases hl with rfl | rfl
  all_goals
    show evB T _ ⟨[.fz _, .fz _, .un, .un], β⟩ _
    refine And.intro (Nat.zero_le _) ?_
    refine And.intro (by rw [sD_len]; omega) (And.intro (by rw [sD_len]; omega) ?_)
    rw [sD_len]
    refine forI (fun i ρ => ∃ m, ρ = ⟨[.fz _, .fz _, .ow (.lst (nD (bel i (clo t (mem l))))), m], β⟩) ⟨_, rfl⟩ ?_ ?_
    · rintro i d _ E2 hi ⟨m, rfl⟩ hn - - -
      obtain ⟨hi, rfl⟩ := rangeD_at (n := t.length + 1) hi
      have hlen := bel_len i (clo t (mem l))
      have hin : inD (.int (i : Int)) (nD l) = mem l i := by
        rw [inD_nD]
        unfold mem
        rw [List.contains_eq_mem]
      have hc : clo t (mem l) i = (mem l i || (inD (.int ((i : Int) - 1)) (nD (bel i (clo t (mem l)))) && isStar t (i - 1))) := by
        cases i with
        | zero =>
          rw [inD_neg _ (by omega), Bool.false_and, Bool.or_false]
          rfl
        | succ i =>
          rw [clo, show ((i + 1 : Nat) : Int) - 1 = (i : Int) by omega, inD_nD, Nat.add_sub_cancel]
          congr 2
          rw [Bool.eq_iff_iff, decide_eq_true_eq, mem_bel]
          exact ⟨fun h => ⟨by omega, h⟩, fun h => h.2⟩
      have yes : clo t (mem l) i = true → evB T [.expr (.mut .append 2 (.cons (.var 3) .nil))] ⟨[_, _, .ow (.lst (nD (bel i (clo t (mem l))))), .fz (.int (i : Int))], β⟩ _ := fun hc => by
        refine And.intro ⟨_, rfl⟩ ?_
        refine And.intro (by rw [nD_len, sizeLine_eq]; omega) ?_
        refine hn _ ⟨.fz (.int (i : Int)), ?_⟩
        rw [app i, if_pos hc]
        rfl
      have no : clo t (mem l) i = false → evB T [] ⟨[_, _, .ow (.lst (nD (bel i (clo t (mem l))))), .fz (.int (i : Int))], β⟩ _ := fun hc => by
        refine hn _ ⟨.fz (.int (i : Int)), ?_⟩
        rw [app i, hc, if_neg (by decide), List.append_nil]
      refine And.intro (.inl ⟨rfl, nD_pf _⟩) ?_
      refine ifB (fun h => ?_) fun h => ?_
      · exact yes (by rw [hc, ← hin]; simp [show inD (.int (i : Int)) (nD l) = true from h])
      refine And.intro (.inl ⟨rfl, nD_pf _⟩) ?_
      have h : inD (.int (i : Int)) (nD l) = false := h
      refine ifB (fun h2 => ?_) fun h2 => ?_
      rotate_left
      · exact no (by rw [hc, ← hin, h, show inD (.int ((i : Int) - 1)) (nD (bel i (clo t (mem l)))) = false from h2]; rfl)
      have h2 : inD (.int ((i : Int) - 1)) (nD (bel i (clo t (mem l)))) = true := h2
      rw [← hin, h, h2, Bool.false_or, Bool.true_and] at hc
      cases i with
      | zero => rw [inD_neg _ (by decide)] at h2; cases h2
      | succ j =>
        have hj : j < t.length := by omega
        refine Exists.intro (.str t[j]) (And.intro ?_ ?_)
        · rw [show ((j + 1 : Nat) : Int) - 1 = (j : Int) by omega]
          exact sD_at hj
        refine And.intro (.inl ⟨rfl, rfl⟩) ?_
        have he := star_eq hj
        refine ifB (fun h3 => ?_) fun h3 => ?_
        · exact yes (by rw [hc]; exact he.symm.trans h3)
        · exact no (by rw [hc]; exact he.symm.trans h3)
    · rintro _ ⟨m, rfl⟩
      rw [show (rangeD 0 ((t.length : Int) + 1)).length = t.length + 1 from rangeD_n (n := t.length + 1)]
      exact ⟨rfl, q⟩
def bd_first_spots : List CS := [.ret (.call 1 (.cons (.var 0) (.cons (.tup (.cons (.con (.int 0)) .nil)) .nil)))]
def firstSp : DSp := fun β ds Q => ∃ (t : List Str) (td : D), ds = [td] ∧ IsS td t ∧ t.length ≤ 100 ∧ Q (.fz (.tup (nD (fst t))))
theorem first_ev (t0 : T.fn 1 = onSp) {ds : List D} {Q : R → Prop} (h : firstSp β ds Q) : evB T bd_first_spots (sta 1 ds β) (finE β Q) := by
  obtain ⟨t, td, rfl, ht, h100, q⟩ := h
  show evB T _ ⟨[.fz td], β⟩ _
  refine And.intro (by rw [sizeLine_eq]; decide) ?_
  show T.fn 1 β [td, .tup (nD [0])] _
  rw [t0]
  exact ⟨t, [0], td, _, rfl, ht, .inr rfl, h100, rfl, q⟩
def bd_behind_word : List CS := [.asg (.name 3) (.lst .nil), .for_ (.name 4) (.seq (.var 1)) [.ite (.and (.cmp .lt (.var 4) (.bi .len (.cons (.var 0) .nil))) (.cmp .eq (.op2 .ix (.var 0) (.var 4)) (.con (.str "*")))) [.expr (.mut .append 3 (.cons (.var 4) .nil))] [.ite (.and (.cmp .lt (.var 4) (.bi .len (.cons (.var 0) .nil))) (.cmp .isin (.op2 .ix (.var 0) (.var 4)) (.tup (.cons (.con (.str "?")) (.cons (.var 2) .nil))))) [.expr (.mut .append 3 (.cons (.op2 .add (.var 4) (.con (.int 1))) .nil))] []]], .ret (.call 1 (.cons (.var 0) (.cons (.var 3) .nil)))]
def behSp : DSp := fun β ds Q => ∃ (t : List Str) (l : List Nat) (w : Str) (td : D), ds = [td, .tup (nD l), .str w] ∧ IsS td t ∧ t.length ≤ 100 ∧ l.length ≤ 101 ∧ Q (.fz (.tup (nD (bw t l w))))
def bst (t : List Str) (w : Str) (p : Nat) : List Nat := if isStar t p = true then [p] else if isHit t w p = true then [p + 1] else []
theorem hit_lt {t : List Str} {w : Str} {q : Nat} (h : isHit t w q = true) : q < t.length := by
  unfold isHit at h
  rw [Bool.or_eq_true, decide_eq_true_eq, decide_eq_true_eq] at h
  rcases h with h | h
  · exact (List.getElem?_eq_some_iff.mp h).1
  · exact (List.getElem?_eq_some_iff.mp h).1
theorem nxt_iff {t : List Str} {w : Str} {l : List Nat} {q : Nat} : nxt t w (mem l) q = true ↔ (q ∈ l ∧ isStar t q = true) ∨ ∃ p, q = p + 1 ∧ p ∈ l ∧ isHit t w p = true := by
  unfold nxt mem
  cases q with
  | zero => simp
  | succ p => simp
theorem bst_clo {t : List Str} {w : Str} {l : List Nat} : sp t.length (clo t (mem (l.flatMap (bst t w)))) = bw t l w := by
  unfold bw sp
  congr 1
  funext q
  rw [Bool.eq_iff_iff, clo_iff, clo_iff]
  have mm : ∀ r, mem (l.flatMap (bst t w)) r = true ↔ ∃ p ∈ l, r ∈ bst t w p := fun r => by
    unfold mem
    rw [List.contains_iff_mem, List.mem_flatMap]
  constructor
  · rintro ⟨r, h1, h2, h3⟩
    obtain ⟨p, hp, hr⟩ := (mm r).mp h2
    refine ⟨r, h1, nxt_iff.mpr ?_, h3⟩
    unfold bst at hr
    split at hr
    · rename_i hs
      rw [List.mem_singleton.mp hr]
      exact .inl ⟨hp, hs⟩
    · split at hr
      · rename_i hs
        exact .inr ⟨p, List.mem_singleton.mp hr, hp, hs⟩
      · cases hr
  · rintro ⟨r, h1, h2, h3⟩
    rcases nxt_iff.mp h2 with ⟨hp, hs⟩ | ⟨p, rfl, hp, hs⟩
    · exact ⟨r, h1, (mm r).mpr ⟨r, hp, by unfold bst; rw [if_pos hs]; exact List.mem_singleton.mpr rfl⟩, h3⟩
    · by_cases hst : isStar t p = true
      · refine ⟨p, by omega, (mm p).mpr ⟨p, hp, by unfold bst; rw [if_pos hst]; exact List.mem_singleton.mpr rfl⟩, fun j j1 j2 => ?_⟩
        by_cases e : j = p
        · rw [e]; exact hst
        · exact h3 j (by omega) j2
      · exact ⟨p + 1, h1, (mm _).mpr ⟨p, hp, by unfold bst; rw [if_neg hst, if_pos hs]; exact List.mem_singleton.mpr rfl⟩, h3⟩
theorem bst_len (t : List Str) (w : Str) (p : Nat) : (bst t w p).length ≤ 1 := by
  unfold bst
  split
  · exact Nat.le_refl 1
  · split
    · exact Nat.le_refl 1
    · exact Nat.zero_le 1
theorem flat_len {f : Nat → List Nat} {c : Nat} (h : ∀ p, (f p).length ≤ c) : ∀ l : List Nat, (l.flatMap f).length ≤ c * l.length
  | [] => by simp
  | x :: l => by
    have := flat_len h l
    have := h x
    rw [List.flatMap_cons, List.length_append, List.length_cons, Nat.mul_succ]
    omega
theorem take_succ_flat {l : List Nat} {i : Nat} (h : i < l.length) (f : Nat → List Nat) : (l.take (i + 1)).flatMap f = (l.take i).flatMap f ++ f l[i] := by
  rw [List.take_succ_eq_append_getElem h, List.flatMap_append]
  simp
theorem beh_ev (t0 : T.fn 1 = onSp) {ds : List D} {Q : R → Prop} (h : behSp β ds Q) : evB T bd_behind_word (sta 5 ds β) (finE β Q) := by
  obtain ⟨t, l, w, td, rfl, ht, h100, h101, q⟩ := h
  have ht' := ht
  rcases ht with rfl | rfl
  all_goals
    show evB T _ ⟨[.fz _, .fz _, .fz _, .un, .un], β⟩ _
    refine And.intro (Nat.zero_le _) ?_
    refine forI (fun i ρ => ∃ m, ρ = ⟨[.fz _, .fz _, .fz _, .ow (.lst (nD ((l.take i).flatMap (bst t w)))), m], β⟩) ⟨_, rfl⟩ ?_ ?_
    · rintro i d _ E2 hi ⟨m, rfl⟩ hn - - -
      obtain ⟨hi0, rfl⟩ := nD_get hi
      have hlen := flat_len (bst_len t w) (l.take i)
      rw [List.length_take] at hlen
      have app := take_succ_flat hi0 (bst t w)
      have fin : ∀ x, bst t w l[i] = x → E2.nx ⟨[.fz _, .fz _, .fz _, .ow (.lst (nD ((l.take i).flatMap (bst t w)) ++ nD x)), .fz (.int (l[i] : Nat))], β⟩ := fun x e => by
        refine hn _ ⟨.fz (.int (l[i] : Nat)), ?_⟩
        rw [app, e, nD_app]
      have no : bst t w l[i] = [] → E2.nx ⟨[.fz _, .fz _, .fz _, .ow (.lst (nD ((l.take i).flatMap (bst t w)))), .fz (.int (l[i] : Nat))], β⟩ := fun e => by
        have := fin _ e
        rw [show nD ([] : List Nat) = [] from rfl, List.append_nil] at this
        exact this
      refine ifB (fun h => ?_) fun h => ?_
      · have h : decide (((l[i] : Nat) : Int) < ((sD t).length : Int)) = true := h
        rw [sD_len, decide_eq_true_eq] at h
        have hj : l[i] < t.length := by omega
        refine Exists.intro _ (And.intro (sD_at hj) ?_)
        refine And.intro (.inl ⟨rfl, rfl⟩) ?_
        refine ifB (fun h2 => ?_) fun h2 => ?_
        · refine And.intro ⟨_, rfl⟩ ?_
          refine And.intro (by rw [nD_len, sizeLine_eq]; omega) ?_
          exact fin [l[i]] (by unfold bst; rw [if_pos ((star_eq hj).symm.trans h2)])
        · have hs : isStar t l[i] = false := (star_eq hj).symm.trans h2
          refine ifB (fun h => ?_) fun h3 => ?_
          · refine Exists.intro _ (And.intro (sD_at hj) ?_)
            refine And.intro (by rw [sizeLine_eq]; simp) ?_
            refine And.intro (.inl ⟨rfl, rfl⟩) ?_
            refine ifB (fun h4 => ?_) fun h4 => ?_
            · refine And.intro ⟨_, rfl⟩ ?_
              refine And.intro (by rw [nD_len, sizeLine_eq]; omega) ?_
              exact fin [l[i] + 1] (by unfold bst; rw [hs, if_neg (by decide), if_pos ((hit_eq hj).symm.trans h4)])
            · exact no (by unfold bst; rw [hs, if_neg (by decide), (hit_eq hj).symm.trans h4, if_neg (by decide)])
          · have h3 : decide (((l[i] : Nat) : Int) < ((sD t).length : Int)) = false := h3
            rw [sD_len, decide_eq_false_iff_not] at h3
            omega
      · have h : decide (((l[i] : Nat) : Int) < ((sD t).length : Int)) = false := h
        rw [sD_len, decide_eq_false_iff_not] at h
        refine ifF ?_
        refine ifB (fun h3 => ?_) fun h3 => ?_
        · have h3 : decide (((l[i] : Nat) : Int) < ((sD t).length : Int)) = true := h3
          rw [sD_len, decide_eq_true_eq] at h3
          omega
        · refine ifF (no ?_)
          unfold bst
          rw [if_neg fun z => by have := star_lt z; omega, if_neg fun z => by have := hit_lt z; omega]
    · rintro _ ⟨m, rfl⟩
      rw [nD_len, List.take_length]
      show T.fn 1 β [_, .lst (nD (l.flatMap (bst t w)))] _
      rw [t0]
      exact ⟨t, l.flatMap (bst t w), _, _, rfl, ht', .inl rfl, h100, rfl, by rw [bst_clo]; exact q⟩
def bd_log_fits : List CS := [.asg (.name 3) (.call 2 (.cons (.var 1) .nil)), .for_ (.name 4) (.seq (.var 2)) [.asg (.name 3) (.call 3 (.cons (.var 1) (.cons (.var 3) (.cons (.var 4) .nil))))], .ret (.op2 .isin (.bi .len (.cons (.var 1) .nil)) (.var 3))]
def fitSp : DSp := fun β ds Q => ∃ (t ws : List Str) (td wd : D), ds = [wd, td, .lst (sD ws)] ∧ IsS td t ∧ t.length ≤ 100 ∧ Q (.fz (.bl (acc t ws)))
theorem bw_len (t : List Str) (l : List Nat) (w : Str) : (bw t l w).length ≤ t.length + 1 := by
  unfold bw sp
  exact bel_len _ _
theorem fst_len (t : List Str) : (fst t).length ≤ t.length + 1 := bel_len _ _
theorem run_len (t : List Str) : ∀ (ws : List Str) (l : List Nat), l.length ≤ t.length + 1 → (run t l ws).length ≤ t.length + 1
  | [], l, h => h
  | w :: ws, l, h => run_len t ws _ (bw_len t l w)
theorem run_snoc (t : List Str) (l : List Nat) (ws : List Str) (w : Str) : run t l (ws ++ [w]) = bw t (run t l ws) w := by
  unfold run
  rw [List.foldl_append]
  rfl
theorem fit_ev (t1 : T.fn 2 = firstSp) (t2 : T.fn 3 = behSp) {ds : List D} {Q : R → Prop} (h : fitSp β ds Q) : evB T bd_log_fits (sta 5 ds β) (finE β Q) := by
  obtain ⟨t, ws, td, wd, rfl, ht, h100, q⟩ := h
  have ht' := ht
  rcases ht with rfl | rfl
  all_goals
    show evB T _ ⟨[.fz _, .fz _, .fz _, .un, .un], β⟩ _
    show T.fn 2 β [_] _
    rw [t1]
    refine ⟨t, _, rfl, ht', h100, ?_⟩
    refine forI (fun i ρ => ∃ m, ρ = ⟨[.fz _, .fz _, .fz _, .fz (.tup (nD (run t (fst t) (ws.take i)))), m], β⟩) ⟨_, rfl⟩ ?_ ?_
    · rintro i d _ E2 hi ⟨m, rfl⟩ hn - - -
      obtain ⟨hi0, rfl⟩ := sD_get hi
      show T.fn 3 β [_, .tup (nD (run t (fst t) (ws.take i))), .str ws[i]] _
      rw [t2]
      refine ⟨t, _, _, _, rfl, ht', h100, ?_, ?_⟩
      · have := run_len t (ws.take i) (fst t) (fst_len t)
        omega
      · refine hn _ ⟨.fz (.str ws[i]), ?_⟩
        rw [List.take_succ_eq_append_getElem hi0, run_snoc]
        rfl
    · rintro _ ⟨m, rfl⟩
      rw [sD_len, List.take_length]
      refine And.intro (.inl ⟨rfl, nD_pf _⟩) ?_
      refine ⟨rfl, ?_⟩
      show Q (.fz (.bl (inD (.int ((sD t).length : Int)) (nD (run t (fst t) ws)))))
      rw [sD_len, inD_nD]
      unfold acc at q
      rw [List.contains_eq_mem] at q
      exact q
end
end K63

set_option Elab.async false
set_option linter.all false
set_option autoImplicit false
set_option maxRecDepth 100000
set_option maxHeartbeats 1000000
/-! K62g: names. -/
namespace K63
open PySem PySem.Spec PyProof.Rows L2 DI
section
variable {T : Tb} {β : Option Bag}
def bd_l_alike : List CS := [.ret (.and (.op2 .eq (.var 0) (.var 1)) (.op2 .eq (.bi .repr (.cons (.var 0) .nil)) (.bi .repr (.cons (.var 1) .nil))))]
def alSp : DSp := fun β ds Q => ∃ x y : Bool, ds = [.bl x, .bl y] ∧ Q (.fz (.bl (decide (x = y))))
theorem bl_shw (x : Bool) : (D.bl x).shw = true := by cases x <;> decide +kernel
theorem al_ev {ds : List D} {Q : R → Prop} (h : alSp β ds Q) : evB T bd_l_alike (sta 2 ds β) (finE β Q) := by
  obtain ⟨x, y, rfl, q⟩ := h
  show evB T _ ⟨[.fz _, .fz _], β⟩ _
  refine And.intro (.inl ⟨rfl, rfl⟩) ?_
  refine ifB (fun h => ?_) fun h => ?_
  · have h : eqD (.bl x) (.bl y) = true := h
    rw [eqD_bl, decide_eq_true_eq] at h
    subst h
    refine And.intro (bl_shw x) ?_
    refine And.intro (bl_shw x) ?_
    refine And.intro (.inl ⟨rfl, rfl⟩) ?_
    refine ⟨rfl, ?_⟩
    show Q (.fz (.bl (eqD (.str _) (.str _))))
    rw [eqD_str]
    simpa using q
  · have h : eqD (.bl x) (.bl y) = false := h
    rw [eqD_bl] at h
    rw [h] at q
    exact ⟨rfl, q⟩
/-! ### names -/
def okW (w : Str) : Bool := decide (w.length ≤ 8) && w.cps.toList.all fun c => decide (97 ≤ c) && decide (c ≤ 122)
theorem okW_star {w : Str} (h : okW w = true) : w ≠ star := by
  rintro rfl
  revert h
  decide +kernel
theorem okW_ok {w : Str} (h : okW w = true) : PyData.strOk w = true := by
  unfold okW at h
  unfold PyData.strOk
  rw [Bool.and_eq_true, List.all_eq_true] at h
  rw [Array.all_eq_true_iff_forall_mem]
  intro c hc
  have := h.2 c (Array.mem_toList_iff.mpr hc)
  simp at this ⊢
  omega
theorem okW_len {w : Str} (h : okW w = true) : w.length ≤ 8 := by
  unfold okW at h
  rw [Bool.and_eq_true, decide_eq_true_eq] at h
  exact h.1
theorem str_app_list (a b : Str) : (a ++ b).cps.toList = a.cps.toList ++ b.cps.toList := Array.toList_append ..
theorem len_list (a : Str) : a.length = a.cps.toList.length := rfl
theorem okW_app {a b : Str} (ha : okW a = true) (hb : okW b = true) (hl : a.length + b.length ≤ 8) : okW (a ++ b) = true := by
  unfold okW at ha hb ⊢
  rw [Bool.and_eq_true, decide_eq_true_eq] at ha hb ⊢
  rw [str_app_list, List.all_append, ha.2, hb.2]
  refine ⟨?_, rfl⟩
  rw [len_list, str_app_list, List.length_append, ← len_list, ← len_list]
  exact hl
def okC (c : Nat) : Bool := okW ⟨#[c]⟩
def abc : Str := "abcdefghijklmnopqrstuvwxyz"
theorem abc_ok : ∀ c ∈ abc.cps.toList, okW ⟨#[c]⟩ = true := by decide +kernel
theorem abc_at {i : Int} (h0 : 0 ≤ i) (h1 : i < 26) : ∃ c, atI abc.cps.toList i = some c ∧ okW ⟨#[c]⟩ = true := by
  obtain ⟨j, rfl⟩ := Int.eq_ofNat_of_zero_le h0
  have hj : j < abc.cps.toList.length := by
    have : abc.cps.toList.length = 26 := by decide +kernel
    omega
  exact ⟨_, atN (List.getElem?_eq_getElem hj), abc_ok _ (List.getElem_mem hj)⟩
theorem exists_sD {P : Str → Prop} : ∀ {xs : List D}, (∀ x ∈ xs, ∃ w, x = .str w ∧ P w) → ∃ ss : List Str, xs = sD ss ∧ ∀ w ∈ ss, P w
  | [], _ => ⟨[], rfl, fun _ h => nomatch h⟩
  | x :: xs, h => by
    obtain ⟨w, rfl, hw⟩ := h x List.mem_cons_self
    obtain ⟨ss, rfl, hs⟩ := exists_sD (xs := xs) fun y hy => h y (List.mem_cons_of_mem _ hy)
    refine ⟨w :: ss, rfl, fun v hv => ?_⟩
    rcases List.mem_cons.mp hv with rfl | hv
    · exact hw
    · exact hs v hv
def cutL {α : Type} (xs : List α) (lo hi : Option Int) : List α := (xs.drop (HT.sIx xs.length 0 lo)).take (HT.sIx xs.length xs.length hi - HT.sIx xs.length 0 lo)
theorem cut_sD (t : List Str) (lo hi : Option Int) : cutD (sD t) lo hi = sD (cutL t lo hi) := by
  unfold DI.cutD cutL
  rw [sD_len]
  unfold sD
  rw [List.map_take, List.map_drop]
theorem cutL_to {α : Type} (t : List α) (k : Nat) : cutL t none (some (k : Int)) = t.take k := by
  unfold cutL
  rw [HT.sIx_none, HT.sIx_nat]
  simp only [List.drop_zero, Nat.sub_zero]
  rw [List.take_eq_take_iff]
  omega
theorem cutL_from {α : Type} (t : List α) (k : Nat) : cutL t (some (k : Int)) none = t.drop k := by
  unfold cutL
  rw [HT.sIx_none, HT.sIx_nat]
  by_cases h : k ≤ t.length
  · rw [Nat.min_eq_left h, List.take_of_length_le (by rw [List.length_drop]; omega)]
  · rw [Nat.min_eq_right (by omega), List.drop_of_length_le (Nat.le_refl _), List.drop_of_length_le (by omega), List.take_nil]
theorem sD_app (a b : List Str) : sD (a ++ b) = sD a ++ sD b := List.map_append ..
def bd_l_names : List CS := [.asg (.name 2) (.meth .split (.con (.str "do of case end if else loop block leave again mark yes no at try on")) (.con (.str " "))), .asg (.tup [5, 6]) (.tup (.cons (.call 6 (.cons (.var 0) (.cons (.con (.int 5)) .nil))) (.cons (.call 6 (.cons (.var 0) (.cons (.con (.int 16)) .nil))) .nil))), .ite (.cmp .eq (.var 5) (.con (.int 0))) [.ret (.bi .tuple (.cons (.bi .sorted (.cons (.slc (.op2 .add (.slc (.var 2) (.some (.var 6)) .none) (.slc (.var 2) .none (.some (.var 6)))) .none (.some (.var 1))) .nil)) .nil))] [], .ite (.cmp .eq (.var 5) (.con (.int 1))) [.ret (.bi .tuple (.cons (.comp [7] (.name 7) (.range (.cons (.var 1) .nil)) .none (.slc (.con (.str "aaaaaaaa")) .none (.some (.op2 .add (.var 7) (.con (.int 1)))))) .nil))] [], .asg (.name 3) (.con (.str "abcdefghijklmnopqrstuvwxyz")), .asg (.name 4) (.op2 .ix (.lst (.cons (.con (.str "")) (.cons (.con (.str "")) (.cons (.op2 .ix (.var 3) (.var 6)) (.cons (.con (.str "zzzzzzz")) .nil))))) (.op2 .sub (.var 5) (.con (.int 1)))), .ret (.bi .tuple (.cons (.bi .sorted (.cons (.comp [7] (.name 7) (.range (.cons (.var 1) .nil)) .none (.op2 .add (.var 4) (.op2 .ix (.var 3) (.op2 .mod (.bi .int (.cons (.op2 .add (.var 6) (.op2 .mul (.con (.int 3)) (.var 7))) .nil)) (.con (.int 26)))))) .nil)) .nil))]
def namSp : DSp := fun β ds Q => ∃ (b : Bag) (m : Nat), β = some b ∧ ds = [.opq (.ref b.1), .int (m : Int)] ∧ m ≤ 6 ∧ ∀ W : List Str, W.length ≤ 6 → (∀ w ∈ W, okW w = true) → Q (.fz (.tup (sD W)))
def menu : List Str := Txt.split "do of case end if else loop block leave again mark yes no at try on" " "
theorem menu_ok : ∀ w ∈ menu, okW w = true := by decide +kernel
theorem menu_len : menu.length = 16 := by decide +kernel
theorem as_ok : ∀ k, k < 8 → okW (cutS "aaaaaaaa" none (some ((k : Nat) : Int))) = true := by decide +kernel
theorem nam_ev (t6 : T.fn 6 = takeSp) {ds : List D} {Q : R → Prop} (h : namSp β ds Q) : evB T bd_l_names (sta 8 ds β) (finE β Q) := by
  obtain ⟨b, m, rfl, rfl, hm, q⟩ := h
  have perm : ∀ {ss ys : List Str}, ys.Perm ss → ss.length ≤ 6 → (∀ w ∈ ss, okW w = true) → Q (.fz (.tup (ys.map D.str))) := fun {ss ys} hp hl hs => q ys (by rw [hp.length_eq]; exact hl) fun w hw => hs w (hp.mem_iff.mp hw)
  show evB T _ ⟨[.fz _, .fz _, .un, .un, .un, .un, .un, .un], some b⟩ _
  refine And.intro (by decide +kernel) (And.intro (by decide +kernel) ?_)
  show T.fn 6 (some b) [.opq (.ref b.1), .int 5] _
  rw [t6]
  refine ⟨b, _, rfl, rfl, by omega, by omega, fun way w0 w1 => ?_⟩
  show T.fn 6 (some b) [.opq (.ref b.1), .int 16] _
  rw [t6]
  refine ⟨b, _, rfl, rfl, by omega, by omega, fun turn u0 u1 => ?_⟩
  refine And.intro (by rw [sizeLine_eq]; simp) ?_
  refine Exists.intro _ (And.intro rfl ?_)
  obtain ⟨u, rfl⟩ := Int.eq_ofNat_of_zero_le u0
  refine And.intro (.inl ⟨rfl, rfl⟩) ?_
  refine ifB (fun h => ?_) fun h => ?_
  · refine And.intro ?_ ?_
    · show (cutD (sD menu) (some (u : Int)) none).length + (cutD (sD menu) none (some (u : Int))).length ≤ sizeLine
      rw [cut_sD, cut_sD, cutL_from, cutL_to, sD_len, sD_len, List.length_drop, List.length_take, menu_len, sizeLine_eq]
      omega
    refine .inl ⟨cutL (cutL menu (some (u : Int)) none ++ cutL menu none (some (u : Int))) none (some (m : Int)), ?_, ?_, fun ys hp _ => ⟨rfl, perm hp ?_ ?_⟩⟩
    · show cutD (cutD (sD menu) (some (u : Int)) none ++ cutD (sD menu) none (some (u : Int))) none (some (m : Int)) = _
      rw [cut_sD, cut_sD, ← sD_app, cut_sD]
      rfl
    · rw [cutL_to, List.length_take]; omega
    · rw [cutL_to, List.length_take]; omega
    · intro w hw
      rw [cutL_to, cutL_from, cutL_to] at hw
      rcases List.mem_append.mp (List.mem_of_mem_take hw) with h | h
      · exact menu_ok w (List.mem_of_mem_drop h)
      · exact menu_ok w (List.mem_of_mem_take h)
  have h : eqD (.int way) (.int 0) = false := h
  rw [eqD_int, decide_eq_false_iff_not] at h
  refine And.intro (.inl ⟨rfl, rfl⟩) ?_
  refine ifB (fun h1 => ?_) fun h1 => ?_
  · refine And.intro (by omega) (And.intro (by omega) ?_)
    refine compP (ρ := ⟨[.fz _, .fz _, .ow _, .un, .un, .fz _, .fz _, .un], some b⟩) (fun x => ∃ w, x = .str w ∧ okW w = true) ?_ (fun d hd k hk => ?_) fun xs hx hp => ?_
    · rw [rangeD_n, sizeLine_eq]
      show 0 + m < _
      omega
    · obtain ⟨i, hi⟩ := List.mem_iff_getElem?.mp hd
      obtain ⟨hi, rfl⟩ := rangeD_at hi
      refine And.intro (by rw [sizeLine_eq]; decide +kernel) ?_
      exact hk _ ⟨_, rfl, as_ok (i + 1) (by omega)⟩
    · obtain ⟨ss, rfl, hs⟩ := exists_sD hp
      rw [rangeD_n, sD_len] at hx
      exact ⟨rfl, q ss (by omega) hs⟩
  have h1 : eqD (.int way) (.int 1) = false := h1
  rw [eqD_int, decide_eq_false_iff_not] at h1
  refine And.intro (by rw [sizeLine_eq]; decide +kernel) ?_
  obtain ⟨c, hc1, hc2⟩ := abc_at (i := (u : Int)) (by omega) (by omega)
  refine Exists.intro c (And.intro hc1 ?_)
  refine And.intro (by rw [sizeLine_eq]; simp) ?_
  have stem : ∃ st : Str, atI [D.str "", .str "", .str ⟨#[c]⟩, .str "zzzzzzz"] (way - 1) = some (.str st) ∧ okW st = true ∧ st.length ≤ 7 := by
    have : way = 2 ∨ way = 3 ∨ way = 4 := by omega
    rcases this with rfl | rfl | rfl
    · exact ⟨"", rfl, by decide +kernel, by decide +kernel⟩
    · exact ⟨⟨#[c]⟩, rfl, hc2, Nat.le_of_ble_eq_true rfl⟩
    · exact ⟨"zzzzzzz", rfl, by decide +kernel, by decide +kernel⟩
  obtain ⟨st, e1, e2, e3⟩ := stem
  refine Exists.intro _ (And.intro e1 ?_)
  refine And.intro (by omega) (And.intro (by omega) ?_)
  refine compP (ρ := ⟨[.fz _, .fz _, .ow _, .fz (.str "abcdefghijklmnopqrstuvwxyz"), .fz (.str st), .fz _, .fz (.int (u : Int)), .un], some b⟩) (fun x => ∃ w, x = .str w ∧ okW w = true) ?_ (fun d hd k hk => ?_) fun xs hx hp => ?_
  · rw [rangeD_n, sizeLine_eq]
    show 0 + m < _
    omega
  · obtain ⟨i, hi⟩ := List.mem_iff_getElem?.mp hd
    obtain ⟨hi, rfl⟩ := rangeD_at hi
    refine And.intro (.inl ⟨by omega, by omega⟩) ?_
    refine And.intro (by omega : (0 : Int) < 26) ?_
    refine And.intro (by rw [sizeLine_eq]; decide +kernel) ?_
    obtain ⟨c2, f1, f2⟩ := abc_at (i := ((u : Int) + 3 * (i : Int)) % 26) (by omega) (by omega)
    refine Exists.intro c2 (And.intro f1 ?_)
    have l1 : Str.length ⟨#[c2]⟩ = 1 := rfl
    refine And.intro (by rw [sizeLine_eq, l1]; omega) ?_
    exact hk _ ⟨_, rfl, okW_app e2 f2 (by rw [l1]; omega)⟩
  · obtain ⟨ss, rfl, hs⟩ := exists_sD hp
    rw [rangeD_n, sD_len] at hx
    exact .inl ⟨ss, rfl, by omega, fun ys hp _ => ⟨rfl, perm hp (by omega) hs⟩⟩
end
end K63

set_option Elab.async false
set_option linter.all false
set_option autoImplicit false
set_option maxRecDepth 100000
set_option maxHeartbeats 1000000
/-! K62h: the law's own going through the entries. -/
namespace K63
open PySem PySem.Spec PyProof.Rows L2 DI
/-- the first q entries fit the first a words -/
def Rr (t ws : List Str) : Nat → Nat → Bool
  | 0, a => decide (a = 0)
  | q + 1, a => if isStar t q = true then (List.range (a + 1)).any (Rr t ws q) else match a with
    | 0 => false
    | a + 1 => Rr t ws q a && isHit t (ws.getD a "") q
theorem Rr_succ {t ws : List Str} {q a : Nat} (h : isStar t q = true) : Rr t ws (q + 1) a = (List.range (a + 1)).any (Rr t ws q) := by
  cases a <;> (rw [Rr]; first | rw [if_pos h] | exact fun _ => h)
theorem Rr_star {t ws : List Str} {q a : Nat} (h : isStar t q = true) : Rr t ws (q + 1) a = true ↔ ∃ c, c ≤ a ∧ Rr t ws q c = true := by
  rw [Rr_succ h, List.any_eq_true]
  constructor
  · rintro ⟨c, h1, h2⟩; exact ⟨c, by rw [List.mem_range] at h1; omega, h2⟩
  · rintro ⟨c, h1, h2⟩; exact ⟨c, by rw [List.mem_range]; omega, h2⟩
theorem Rr_no {t ws : List Str} {q a : Nat} (h : isStar t q = false) : Rr t ws (q + 1) (a + 1) = (Rr t ws q a && isHit t (ws.getD a "") q) := by
  rw [Rr, h, if_neg (by decide)]
theorem Rr_no0 {t ws : List Str} {q : Nat} (h : isStar t q = false) : Rr t ws (q + 1) 0 = false := by
  rw [Rr, h, if_neg (by decide)]
/-- spot q is come to behind a words -/
def Sp (t ws : List Str) (q a : Nat) : Bool := if isStar t q = true then Rr t ws (q + 1) a else Rr t ws q a
theorem Sp_star {t ws : List Str} {q a : Nat} (h : isStar t q = true) : Sp t ws q a = Rr t ws (q + 1) a := by unfold Sp; rw [if_pos h]
theorem Sp_no {t ws : List Str} {q a : Nat} (h : isStar t q = false) : Sp t ws q a = Rr t ws q a := by unfold Sp; rw [h, if_neg (by decide)]
theorem Rr_up {t ws : List Str} {q a c : Nat} (h : isStar t q = true) (hac : a ≤ c) (hr : Rr t ws (q + 1) a = true) : Rr t ws (q + 1) c = true := by
  obtain ⟨x, h1, h2⟩ := (Rr_star h).mp hr
  exact (Rr_star h).mpr ⟨x, by omega, h2⟩
theorem clo_zero {t ws : List Str} : ∀ q, clo t (mem [0]) q = Sp t ws q 0
  | 0 => by
    cases h : isStar t 0 with
    | true =>
      rw [Sp_star h]
      have : Rr t ws 1 0 = true := (Rr_star h).mpr ⟨0, Nat.le_refl _, rfl⟩
      rw [this]
      rfl
    | false => rw [Sp_no h]; rfl
  | q + 1 => by
    have ih := clo_zero (t := t) (ws := ws) q
    have hm : mem [0] (q + 1) = false := by unfold mem; simp
    rw [clo, hm, Bool.false_or, ih]
    have e : (Sp t ws q 0 && isStar t q) = Rr t ws (q + 1) 0 := by
      cases h : isStar t q with
      | true => rw [Sp_star h, Bool.and_true]
      | false => rw [Bool.and_false, Rr_no0 h]
    rw [e]
    cases h : isStar t (q + 1) with
    | false => rw [Sp_no h]
    | true =>
      rw [Sp_star h, Bool.eq_iff_iff]
      constructor
      · intro hr; exact (Rr_star h).mpr ⟨0, Nat.le_refl _, hr⟩
      · intro hr
        obtain ⟨c, h1, h2⟩ := (Rr_star h).mp hr
        have : c = 0 := by omega
        rw [← this]; exact h2
theorem clo_step {t ws : List Str} {l : List Nat} {a : Nat} {w : Str} (hw : ws.getD a "" = w) (hl : ∀ q, q ≤ t.length → mem l q = Sp t ws q a) : ∀ q, q ≤ t.length → clo t (nxt t w (mem l)) q = Sp t ws q (a + 1)
  | 0, _ => by
    rw [clo]
    unfold nxt
    rw [hl 0 (Nat.zero_le _)]
    cases h : isStar t 0 with
    | true =>
      rw [Sp_star h, Sp_star h]
      have h1 : Rr t ws 1 a = true := (Rr_star h).mpr ⟨0, Nat.zero_le _, rfl⟩
      have h2 : Rr t ws 1 (a + 1) = true := (Rr_star h).mpr ⟨0, Nat.zero_le _, rfl⟩
      rw [h1, h2]
      rfl
    | false => rw [Sp_no h, Sp_no h]; simp [Rr]
  | q + 1, hq => by
    have ih := clo_step hw hl q (by omega)
    rw [clo, ih]
    unfold nxt
    rw [hl (q + 1) hq, Nat.add_sub_cancel, hl q (by omega)]
    -- the part that comes from q
    have e : ((decide (0 < q + 1) && Sp t ws q a && isHit t w q) || (Sp t ws q (a + 1) && isStar t q)) = Rr t ws (q + 1) (a + 1) := by
      cases h : isStar t q with
      | true =>
        rw [Sp_star h, Sp_star h, Bool.and_true, Bool.eq_iff_iff]
        simp only [Bool.or_eq_true, Bool.and_eq_true]
        constructor
        · rintro (⟨⟨_, h1⟩, _⟩ | h1)
          · exact Rr_up h (Nat.le_succ a) h1
          · exact h1
        · exact fun h1 => .inr h1
      | false =>
        rw [Sp_no h, Bool.and_false, Bool.or_false, Rr_no h, hw]
        simp
    rw [Bool.or_assoc, e]
    cases h : isStar t (q + 1) with
    | false => rw [Sp_no h, Sp_no h]; simp
    | true =>
      rw [Sp_star h, Sp_star h, Bool.and_true, Bool.eq_iff_iff, Bool.or_eq_true]
      constructor
      · rintro (h1 | h1)
        · exact Rr_up h (Nat.le_succ a) h1
        · exact (Rr_star h).mpr ⟨a + 1, Nat.le_refl _, h1⟩
      · intro h1
        obtain ⟨c, h2, h3⟩ := (Rr_star h).mp h1
        by_cases hc : c = a + 1
        · rw [hc] at h3; exact .inr h3
        · exact .inl ((Rr_star h).mpr ⟨c, by omega, h3⟩)
theorem mem_sp' {n : Nat} {S : Nat → Bool} {q : Nat} (hq : q ≤ n) : mem (sp n S) q = S q := by
  unfold mem
  rw [Bool.eq_iff_iff, List.contains_iff_mem, mem_sp]
  exact ⟨fun h => h.2, fun h => ⟨hq, h⟩⟩
theorem run_Sp {t ws : List Str} : ∀ a, a ≤ ws.length → ∀ q, q ≤ t.length → mem (run t (fst t) (ws.take a)) q = Sp t ws q a
  | 0, _, q, hq => by
    show mem (sp t.length (clo t (mem [0]))) q = _
    rw [mem_sp' hq]
    exact clo_zero q
  | a + 1, ha, q, hq => by
    have ih := run_Sp (t := t) (ws := ws) a (by omega)
    rw [List.take_succ_eq_append_getElem (by omega : a < ws.length), run_snoc]
    unfold bw
    rw [mem_sp' hq]
    refine clo_step ?_ ih q hq
    rw [List.getD_eq_getElem?_getD, List.getElem?_eq_getElem (by omega)]
    rfl
theorem acc_Rr (t ws : List Str) : acc t ws = Rr t ws t.length ws.length := by
  have h := run_Sp (t := t) (ws := ws) ws.length (Nat.le_refl _) t.length (Nat.le_refl _)
  rw [List.take_length] at h
  have hs : isStar t t.length = false := by
    cases e : isStar t t.length with
    | false => rfl
    | true => have := star_lt e; omega
  rw [Sp_no hs] at h
  exact h
section
variable {T : Tb} {β : Option Bag}
def bd_l_fits : List CS := [.asg (.name 3) (.op2 .add (.lst (.cons (.con (.bl true)) .nil)) (.op2 .mul (.lst (.cons (.con (.bl false)) .nil)) (.bi .len (.cons (.var 2) .nil)))), .for_ (.name 4) (.seq (.var 1)) [.ite (.cmp .eq (.var 4) (.con (.str "*"))) [.asg (.name 3) (.comp [6] (.name 6) (.range (.cons (.op2 .add (.bi .len (.cons (.var 2) .nil)) (.con (.int 1))) .nil)) .none (.op2 .isin (.con (.bl true)) (.slc (.var 3) .none (.some (.op2 .add (.var 6) (.con (.int 1)))))))] [.asg (.name 5) (.comp [6] (.name 6) (.range (.cons (.bi .len (.cons (.var 2) .nil)) .nil)) .none (.and (.op2 .ix (.var 3) (.var 6)) (.op2 .isin (.var 4) (.tup (.cons (.con (.str "?")) (.cons (.op2 .ix (.var 2) (.var 6)) .nil)))))), .asg (.name 3) (.op2 .add (.lst (.cons (.con (.bl false)) .nil)) (.var 5))]], .ret (.op2 .ix (.var 3) (.op1 .neg (.con (.int 1))))]
def bD (l : List Bool) : List D := l.map D.bl
theorem bD_len (l : List Bool) : (bD l).length = l.length := List.length_map ..
theorem bD_pf (l : List Bool) : (bD l).all D.pf = true := by
  unfold bD
  rw [List.all_map, List.all_eq_true]
  exact fun _ _ => rfl
theorem inD_bD (l : List Bool) : inD (.bl true) (bD l) = l.any id := by
  unfold inD bD
  rw [List.any_map]
  congr 1
  funext x
  simp only [Function.comp, eqD_bl, id]
  cases x <;> rfl
def fiSp : DSp := fun β ds Q => ∃ (W t ws : List Str), ds = [.tup (sD W), .lst (sD t), .lst (sD ws)] ∧ ws.length ≤ 1000 ∧ Q (.fz (.bl (acc t ws)))
def row (t ws : List Str) (i : Nat) : List Bool := (List.range (ws.length + 1)).map (Rr t ws i)
theorem row_len (t ws : List Str) (i : Nat) : (row t ws i).length = ws.length + 1 := by unfold row; simp
theorem row_at {t ws : List Str} {i a : Nat} (h : a ≤ ws.length) : (row t ws i)[a]? = some (Rr t ws i a) := by
  unfold row
  rw [List.getElem?_map, List.getElem?_range (by omega)]
  rfl
theorem row_zero (t ws : List Str) : row t ws 0 = true :: List.replicate ws.length false := by
  refine List.ext_getElem? fun a => ?_
  by_cases h : a ≤ ws.length
  · rw [row_at h]
    cases a with
    | zero => rfl
    | succ a => rw [List.getElem?_cons_succ, List.getElem?_replicate, if_pos (by omega)]; rfl
  · rw [List.getElem?_eq_none (by rw [row_len]; omega), List.getElem?_eq_none (by simp; omega)]
theorem fi_ev {ds : List D} {Q : R → Prop} (h : fiSp β ds Q) : evB T bd_l_fits (sta 7 ds β) (finE β Q) := by
  obtain ⟨W, t, ws, rfl, h1000, q⟩ := h
  show evB T _ ⟨[.fz _, .fz _, .fz _, .un, .un, .un, .un], β⟩ _
  refine And.intro (by rw [sizeLine_eq]; simp) ?_
  refine And.intro (by rw [sizeLine_eq]; simp) ?_
  refine And.intro (by omega) (And.intro (by rw [sD_len]; omega) (And.intro (by rw [sD_len, sizeLine_eq]; simp; omega) ?_))
  have e0 : [D.bl true] ++ (List.replicate (((sD ws).length : Int)).toNat [D.bl false]).flatten = bD (row t ws 0) := by
    rw [row_zero, sD_len, Int.toNat_natCast]
    unfold bD
    rw [List.map_cons, List.map_replicate]
    show D.bl true :: (List.replicate ws.length [D.bl false]).flatten = _
    congr 1
    generalize ws.length = n
    induction n with
    | zero => rfl
    | succ n ih => rw [List.replicate_succ, List.flatten_cons, ih, List.replicate_succ]; rfl
  refine And.intro ?_ ?_
  · have := congrArg List.length e0
    rw [List.length_append, bD_len, row_len] at this
    rw [this, sizeLine_eq]; omega
  rw [e0]
  refine forI (fun i ρ => ∃ m4 m5, ρ = ⟨[.fz (.tup (sD W)), .fz (.lst (sD t)), .fz (.lst (sD ws)), .ow (.lst (bD (row t ws i))), m4, m5, .un], β⟩) ⟨_, _, rfl⟩ ?_ ?_
  · rintro i d _ E2 hi ⟨m4, m5, rfl⟩ hn - - -
    obtain ⟨hi0, rfl⟩ := sD_get hi
    refine And.intro (.inl ⟨rfl, rfl⟩) ?_
    refine ifB (fun h => ?_) fun h => ?_
    · have hst : isStar t i = true := (star_eq hi0).symm.trans h
      refine And.intro (by rw [sD_len]; omega) (And.intro (by rw [sD_len]; omega) ?_)
      refine compF (ρ := ⟨[.fz (.tup (sD W)), .fz (.lst (sD t)), .fz (.lst (sD ws)), .ow (.lst (bD (row t ws i))), .fz (.str t[i]), m5, .un], β⟩) (fun d => match d with
        | .int a => some (.bl (Rr t ws (i + 1) a.toNat))
        | _ => none) ?_ (fun d hd k hk => ?_) ?_
      · rw [sD_len, show (rangeD 0 ((ws.length : Int) + 1)).length = ws.length + 1 from rangeD_n (n := ws.length + 1), sizeLine_eq]
        show 0 + (ws.length + 1) < _
        omega
      · obtain ⟨a, ha⟩ := List.mem_iff_getElem?.mp hd
        rw [sD_len] at ha
        obtain ⟨ha, rfl⟩ := rangeD_at (n := ws.length + 1) ha
        have hcut : DI.cutD (bD (row t ws i)) none (some ((a : Int) + 1)) = bD ((row t ws i).take (a + 1)) := by
          unfold DI.cutD
          rw [show (a : Int) + 1 = ((a + 1 : Nat) : Int) by omega, HT.sIx_nat, HT.sIx_none, bD_len, row_len]
          unfold bD
          rw [List.map_take, List.drop_zero, Nat.sub_zero, Nat.min_eq_left (by omega)]
        refine And.intro (.inl ⟨rfl, by rw [hcut]; exact bD_pf _⟩) ?_
        have hin : inD (.bl true) (DI.cutD (bD (row t ws i)) none (some ((a : Int) + 1))) = Rr t ws (i + 1) a := by
          rw [hcut, inD_bD]
          unfold row
          rw [← List.map_take, List.take_range, Nat.min_eq_left (by omega), List.any_map, Rr_succ hst]
          rfl
        show k (some (.bl (inD (.bl true) (DI.cutD (bD (row t ws i)) none (some ((a : Int) + 1)))))) _
        rw [hin]
        exact hk
      · rw [List.nil_append]
        refine hn _ ⟨.fz (.str t[i]), m5, ?_⟩
        have : (rangeD 0 (((sD ws).length : Int) + 1)).filterMap (fun d => match d with
            | .int a => some (D.bl (Rr t ws (i + 1) a.toNat))
            | _ => none) = bD (row t ws (i + 1)) := by
          rw [sD_len]
          unfold rangeD row bD
          rw [List.filterMap_map, List.map_map, show (((ws.length : Int) + 1) - 0).toNat = ws.length + 1 by omega, ← List.filterMap_eq_map]
          congr 1
          funext a
          simp only [Function.comp, Int.zero_add, Int.toNat_natCast]
        rw [this]
        rfl
    · have hst : isStar t i = false := (star_eq hi0).symm.trans h
      refine And.intro (by rw [sD_len]; omega) (And.intro (by rw [sD_len]; omega) ?_)
      refine compF (ρ := ⟨[.fz (.tup (sD W)), .fz (.lst (sD t)), .fz (.lst (sD ws)), .ow (.lst (bD (row t ws i))), .fz (.str t[i]), m5, .un], β⟩) (fun d => match d with
        | .int a => some (.bl (Rr t ws (i + 1) (a.toNat + 1)))
        | _ => none) ?_ (fun d hd k hk => ?_) ?_
      · rw [sD_len, rangeD_n, sizeLine_eq]
        show 0 + ws.length < _
        omega
      · obtain ⟨a, ha⟩ := List.mem_iff_getElem?.mp hd
        rw [sD_len] at ha
        obtain ⟨ha1, rfl⟩ := rangeD_at (n := ws.length) ha
        have hk : k (some (.bl (Rr t ws (i + 1) (a + 1)))) _ := hk
        rw [Rr_no hst] at hk
        refine Exists.intro (.bl (Rr t ws i a)) (And.intro (atN (by unfold bD; rw [List.getElem?_map, row_at (by omega)]; rfl)) ?_)
        have hg : ws.getD a "" = ws[a] := by
          rw [List.getD_eq_getElem?_getD, List.getElem?_eq_getElem ha1]
          rfl
        rw [hg] at hk
        show (if Rr t ws i a = true then _ else _)
        refine ifB (fun h => ?_) fun h => ?_
        · rw [h, Bool.true_and] at hk
          refine Exists.intro _ (And.intro (sD_at ha1) ?_)
          refine And.intro (by rw [sizeLine_eq]; simp) ?_
          refine And.intro (.inl ⟨rfl, rfl⟩) ?_
          show k (some (.bl (inD (.str t[i]) [.str "?", .str ws[a]]))) _
          rw [hit_eq hi0]
          exact hk
        · rw [h, Bool.false_and] at hk
          exact hk
      · rw [List.nil_append]
        have ef : (rangeD 0 ((sD ws).length : Int)).filterMap (fun d => match d with
            | .int a => some (D.bl (Rr t ws (i + 1) (a.toNat + 1)))
            | _ => none) = bD ((row t ws (i + 1)).tail) := by
          rw [sD_len]
          unfold rangeD row bD
          rw [List.range_succ_eq_map, List.map_cons, List.tail_cons, List.map_map, List.map_map, List.filterMap_map, show ((ws.length : Int) - 0).toNat = ws.length by omega, ← List.filterMap_eq_map]
          congr 1
          funext a
          simp only [Function.comp, Int.zero_add, Int.toNat_natCast]
        rw [ef]
        refine And.intro (by rw [sizeLine_eq]; simp) ?_
        have er : [D.bl false] ++ bD ((row t ws (i + 1)).tail) = bD (row t ws (i + 1)) := by
          unfold row
          rw [List.range_succ_eq_map, List.map_cons, List.tail_cons, Rr_no0 hst]
          rfl
        refine And.intro ?_ ?_
        · have := congrArg List.length er
          rw [List.length_append, bD_len, bD_len, row_len] at this
          rw [bD_len, this, sizeLine_eq]; omega
        refine hn _ ⟨.fz (.str t[i]), .ow (.lst (bD ((row t ws (i + 1)).tail))), ?_⟩
        rw [← er]
        rfl
  · rintro _ ⟨m4, m5, rfl⟩
    rw [sD_len]
    refine Exists.intro (.bl (Rr t ws t.length ws.length)) (And.intro ?_ ?_)
    · unfold atI ixN
      rw [if_neg (by omega), bD_len, row_len, if_pos (by omega)]
      unfold bD
      rw [show (((-1 : Int) + ((ws.length + 1 : Nat) : Int))).toNat = ws.length by omega]
      show (List.map D.bl _)[ws.length]? = _
      rw [List.getElem?_map, row_at (Nat.le_refl _)]
      rfl
    · rw [acc_Rr] at q
      exact ⟨rfl, q⟩
end
end K63

set_option Elab.async false
set_option linter.all false
set_option autoImplicit false
set_option maxRecDepth 100000
set_option maxHeartbeats 1000000
/-! K62i: what is a torn log. -/
namespace K62
open PySem PySem.Spec PyProof.Rows L2 DI K63
def isSt : D → Bool
  | .str _ => true
  | _ => false
theorem isi_str {b : Nat} {x : D} (g : gd b x = true) : isiB x "str" = some (isSt x) := by
  cases x with
  | non => exact kb_non.2.2.2.1
  | bl x => exact kb_bl.2.2.2.1
  | int x => exact kb_int.2.2.2.1
  | str x => exact kb_str.2.2.2
  | lst x => exact kb_lst.2.2.2.1
  | tup x => exact kb_tup.2.2.2.1
  | dct x => exact kb_dct.2.2.2.1
  | opq _ => simp [gd] at g
  | scr _ _ => simp [gd] at g
  | dcn _ _ => simp [gd] at g
def entB (W : List Str) : D → Bool
  | .str s => decide (s ∈ W) || decide (s ∈ [ques, star])
  | _ => false
def stB : D → Bool
  | .str s => decide (s = star)
  | _ => false
def tornL (W : List Str) (xs : List D) : Bool := decide (xs.length ≤ 10) && xs.all (entB W) && decide (xs.countP stB ≤ 3)
def tornB (W : List Str) : D → Bool
  | .lst xs => tornL W xs
  | .tup xs => tornL W xs
  | _ => false
def itSp : DSp := fun β ds Q => ∃ (W : List Str) (d : D), ds = [.tup (sD W), d] ∧ W.length ≤ 100 ∧ Val 50 16000000 64 d ∧ Q (.fz (.bl (tornB W d)))
theorem fm_all (W : List Str) (xs : List D) : xs.filterMap (fun e => some (D.bl (entB W e))) = (xs.map (entB W)).map D.bl := by
  rw [List.map_map, ← List.filterMap_eq_map]
  rfl
theorem fm_st (xs : List D) : (xs.filterMap fun e => if stB e = true then some e else none).length = xs.countP stB := by
  induction xs with
  | nil => rfl
  | cons x xs ih =>
    rw [List.filterMap_cons, List.countP_cons]
    cases h : stB x with
    | true => simp [ih]
    | false => simp [ih]
section
variable {T : Tb} {β : Option Bag}
def bd_is_torn : List CS := [.ite (.or (.not (.val (.bi .isi (.cons (.var 1) (.cons (.tup (.cons (.tyc "list") (.cons (.tyc "tuple") .nil))) .nil))))) (.cmp .gt (.bi .len (.cons (.var 1) .nil)) (.glo 0))) [.ret (.con (.bl false))] [], .ite (.not (.val (.bi .all (.cons (.comp [2] (.name 2) (.seq (.var 1)) .none (.and (.bi .isi (.cons (.var 2) (.cons (.tyc "str") .nil))) (.or (.op2 .isin (.var 2) (.var 0)) (.op2 .isin (.var 2) (.tup (.cons (.con (.str "?")) (.cons (.con (.str "*")) .nil))))))) .nil)))) [.ret (.con (.bl false))] [], .ret (.op2 .le (.bi .len (.cons (.comp [2] (.name 2) (.seq (.var 1)) (.some (.cmp .eq (.var 2) (.con (.str "*")))) (.var 2)) .nil)) (.glo 1))]
def gl62 : Nat → D
  | 0 => .int 10
  | 1 => .int 3
  | _ => .non
theorem it_ev (hgl : T.gl = gl62) {ds : List D} {Q : R → Prop} (h : itSp β ds Q) : evB T bd_is_torn (sta 3 ds β) (finE β Q) := by
  obtain ⟨TW, Tfn, Tgl⟩ := T
  have hgl : Tgl = gl62 := hgl
  subst hgl
  obtain ⟨W, d, rfl, hW, hv, q⟩ := h
  show evB ⟨TW, Tfn, gl62⟩ _ ⟨[.fz (.tup (sD W)), .fz d, .un], β⟩ _
  have flat : tornB W d = false → d.tyn.isSome = true → isiB d "list" = some false → isiB d "tuple" = some false → evB ⟨TW, Tfn, gl62⟩ bd_is_torn ⟨[.fz (.tup (sD W)), .fz d, .un], β⟩ (finE β Q) := fun h1 h2 h3 h4 => by
    refine And.intro (by rw [sizeLine_eq]; simp) ?_
    refine Exists.intro ["list", "tuple"] (Exists.intro false (And.intro rfl (And.intro h2 (And.intro (isiA_f h3 h4) ?_))))
    refine Exists.intro false (And.intro rfl ?_)
    rw [h1] at q
    exact ⟨rfl, q⟩
  have hg := hv.g
  have item : ∀ (x : D) {d : D} (k : Option D → Sta → Prop), gd 50 x = true → k (some (.bl (entB W x))) ⟨[.fz (.tup (sD W)), .fz d, .un], β⟩ → evE ⟨TW, Tfn, gl62⟩ (.and (.bi .isi (.cons (.var 2) (.cons (.tyc "str") .nil))) (.or (.op2 .isin (.var 2) (.var 0)) (.op2 .isin (.var 2) (.tup (.cons (.con (.str "?")) (.cons (.con (.str "*")) .nil)))))) ⟨[.fz (.tup (sD W)), .fz d, .fz x], β⟩ fun r ρ5 => keep r ρ5 fun x ρ6 => k (some x) (wipes ρ6 [2]) := fun x d k g hk => by
    refine Exists.intro (isSt x) (And.intro (isi_str g) ?_)
    cases x with
    | str s =>
      refine And.intro (.inl ⟨rfl, sD_pf _⟩) ?_
      have e1 : inD (.str s) (sD W) = decide (s ∈ W) := inD_sD s W
      have hk : k (some (.bl (decide (s ∈ W) || decide (s ∈ [ques, star])))) _ := hk
      show (if inD (.str s) (sD W) = true then _ else _)
      refine ifB (fun h => ?_) fun h => ?_
      · rw [e1] at h
        rw [h, Bool.true_or] at hk
        exact hk
      · rw [e1] at h
        rw [h, Bool.false_or] at hk
        refine And.intro (by rw [sizeLine_eq]; simp) ?_
        refine And.intro (.inl ⟨rfl, rfl⟩) ?_
        show k (some (.bl (inD (.str s) (sD [ques, star])))) _
        rw [inD_sD]
        exact hk
    | non => exact hk
    | bl _ => exact hk
    | int _ => exact hk
    | lst _ => exact hk
    | tup _ => exact hk
    | dct _ => exact hk
    | opq _ => exact hk
    | scr _ _ => exact hk
    | dcn _ _ => exact hk
  have seq : ∀ {xs : List D}, (d = .tup xs ∨ d = .lst xs) → evB ⟨TW, Tfn, gl62⟩ bd_is_torn ⟨[.fz (.tup (sD W)), .fz d, .un], β⟩ (finE β Q) := fun {xs} hc => by
    obtain ⟨hi, hwt, hgd, hdp⟩ := hv.items (xs := xs) hc.symm
    have hlen := wtA_len xs
    have hq : Q (.fz (.bl (tornL W xs))) := by rcases hc with rfl | rfl <;> exact q
    have hsz : ([] : List D).length + xs.length < sizeLine := by rw [sizeLine_eq]; simp; omega
    rcases hc with rfl | rfl
    all_goals
      refine And.intro (by rw [sizeLine_eq]; simp) ?_
      refine Exists.intro ["list", "tuple"] (Exists.intro true (And.intro rfl (And.intro rfl (And.intro (by first | exact isiA_t kb_tup.2.1 kb_tup.2.2.1 | exact isiA_l kb_lst.2.1) ?_))))
      refine Exists.intro true (And.intro rfl ?_)
      show (if decide ((10 : Int) < (xs.length : Int)) = true then _ else _)
      refine ifB (fun h => ?_) fun h => ?_
      · rw [decide_eq_true_eq] at h
        unfold tornL at hq
        rw [decide_eq_false (by omega : ¬ xs.length ≤ 10), Bool.false_and, Bool.false_and] at hq
        exact ⟨rfl, hq⟩
      rw [decide_eq_false_iff_not] at h
      refine compF (ρ := ⟨[.fz (.tup (sD W)), .fz _, .un], β⟩) (fun e => some (.bl (entB W e))) hsz (fun x hx k hk => item x k (gdA_iff.mp hgd x hx) hk) ?_
      rw [List.nil_append, fm_all]
      refine Exists.intro _ (And.intro rfl ?_)
      refine Exists.intro _ (And.intro rfl ?_)
      have ea : (xs.map (entB W)).all id = xs.all (entB W) := by rw [List.all_map]; rfl
      show (if (!(xs.map (entB W)).all id) = true then _ else _)
      rw [ea]
      unfold tornL at hq
      rw [decide_eq_true (by omega : xs.length ≤ 10), Bool.true_and] at hq
      refine ifB (fun h2 => ?_) fun h2 => ?_
      · have h2 : xs.all (entB W) = false := by simpa using h2
        rw [h2, Bool.false_and] at hq
        exact ⟨rfl, hq⟩
      have h2 : xs.all (entB W) = true := by simpa using h2
      rw [h2, Bool.true_and] at hq
      refine compF (ρ := ⟨[.fz (.tup (sD W)), .fz _, .un], β⟩) (fun e => if stB e = true then some e else none) hsz (fun x hx k hk => ?_) ?_
      · have he := List.all_eq_true.mp h2 x hx
        cases x with
        | str s =>
          refine And.intro (.inl ⟨rfl, rfl⟩) ?_
          have hk : k (if decide (s = star) = true then some (.str s) else none) _ := hk
          show (if eqD (.str s) (.str "*") = true then _ else _)
          rw [eqD_str]
          refine ifB (fun h3 => ?_) fun h3 => ?_
          · rw [if_pos (show decide (s = star) = true from h3)] at hk
            exact hk
          · rw [if_neg (by rw [show decide (s = star) = false from h3]; decide)] at hk
            exact hk
        | _ => cases he
      · rw [List.nil_append]
        refine ⟨rfl, ?_⟩
        show Q (.fz (.bl (decide (((xs.filterMap fun e => if stB e = true then some e else none).length : Int) ≤ 3))))
        rw [fm_st]
        have e3 : decide ((xs.countP stB : Int) ≤ 3) = decide (xs.countP stB ≤ 3) := by
          rw [Bool.eq_iff_iff]
          simp
          omega
        show Q (.fz (.bl (decide ((xs.countP stB : Int) ≤ 3))))
        rw [e3]
        exact hq
  cases d with
  | non => exact flat rfl rfl kb_non.2.1 kb_non.2.2.1
  | bl x => exact flat rfl rfl kb_bl.2.1 kb_bl.2.2.1
  | int x => exact flat rfl rfl kb_int.2.1 kb_int.2.2.1
  | str x => exact flat rfl rfl kb_str.2.1 kb_str.2.2.1
  | dct x => exact flat rfl rfl kb_dct.2.1 kb_dct.2.2.1
  | lst xs => exact seq (.inr rfl)
  | tup xs => exact seq (.inl rfl)
  | opq _ => simp [gd] at hg
  | scr _ _ => simp [gd] at hg
  | dcn _ _ => simp [gd] at hg
def bd_l_is_torn : List CS := [.ite (.or (.not (.val (.bi .isi (.cons (.var 1) (.cons (.tup (.cons (.tyc "list") (.cons (.tyc "tuple") .nil))) .nil))))) (.cmp .gt (.bi .len (.cons (.var 1) .nil)) (.con (.int 10)))) [.ret (.con (.bl false))] [], .ite (.cmp .ne (.comp [2] (.name 2) (.seq (.var 1)) (.some (.not (.val (.bi .isi (.cons (.var 2) (.cons (.tyc "str") .nil)))))) (.var 2)) (.lst .nil)) [.ret (.con (.bl false))] [], .ret (.and (.op2 .eq (.comp [2] (.name 2) (.seq (.var 1)) (.some (.cmp .notin (.var 2) (.op2 .add (.var 0) (.tup (.cons (.con (.str "?")) (.cons (.con (.str "*")) .nil)))))) (.var 2)) (.lst .nil)) (.op2 .lt (.cnt (.bi .list (.cons (.var 1) .nil)) (.con (.str "*"))) (.con (.int 4))))]
theorem fm_ne (xs : List D) : (xs.filterMap fun e => if isSt e = true then none else some e) = [] ↔ ∀ x ∈ xs, isSt x = true := by
  rw [List.filterMap_eq_nil_iff]
  constructor
  · intro h x hx
    have := h x hx
    cases e : isSt x with
    | true => rfl
    | false => rw [e] at this; simp at this
  · intro h x hx
    rw [h x hx]; rfl
theorem ne_nil_ok (ys : List D) : eqOk (.lst ys) (.lst []) ∧ eqD (.lst ys) (.lst []) = decide (ys = []) := by
  cases ys with
  | nil => exact ⟨.inr (.inl ⟨rfl, rfl⟩), rfl⟩
  | cons y ys =>
    refine ⟨.inr (.inr (by show (y :: ys).length ≠ 0; simp)), ?_⟩
    rw [eqD_lst]
    rfl
theorem strs_of {xs : List D} (h : ∀ x ∈ xs, isSt x = true) : ∃ ss : List Str, xs = sD ss := by
  induction xs with
  | nil => exact ⟨[], rfl⟩
  | cons x xs ih =>
    obtain ⟨ss, rfl⟩ := ih fun y hy => h y (List.mem_cons_of_mem _ hy)
    have hx := h x List.mem_cons_self
    cases x with
    | str s => exact ⟨s :: ss, rfl⟩
    | _ => cases hx
theorem ents_sD (W ss : List Str) : (sD ss).all (entB W) = decide ((sD ss).filterMap (fun e => if entB W e = true then none else some e) = []) := by
  rw [Bool.eq_iff_iff, decide_eq_true_eq, List.filterMap_eq_nil_iff, List.all_eq_true]
  constructor
  · intro h x hx; rw [h x hx]; rfl
  · intro h x hx
    have := h x hx
    cases e : entB W x with
    | true => rfl
    | false => rw [e] at this; simp at this
theorem count_sD (ss : List Str) : (sD ss).countP stB = ss.countP fun w => decide (w = star) := by
  unfold sD
  rw [List.countP_map]
  rfl
theorem lit_ev {ds : List D} {Q : R → Prop} (h : itSp β ds Q) : evB T bd_l_is_torn (sta 3 ds β) (finE β Q) := by
  obtain ⟨W, d, rfl, hW, hv, q⟩ := h
  show evB T _ ⟨[.fz (.tup (sD W)), .fz d, .un], β⟩ _
  have flat : tornB W d = false → d.tyn.isSome = true → isiB d "list" = some false → isiB d "tuple" = some false → evB T bd_l_is_torn ⟨[.fz (.tup (sD W)), .fz d, .un], β⟩ (finE β Q) := fun h1 h2 h3 h4 => by
    refine And.intro (by rw [sizeLine_eq]; simp) ?_
    refine Exists.intro ["list", "tuple"] (Exists.intro false (And.intro rfl (And.intro h2 (And.intro (isiA_f h3 h4) ?_))))
    refine Exists.intro false (And.intro rfl ?_)
    rw [h1] at q
    exact ⟨rfl, q⟩
  have hg := hv.g
  have seq : ∀ {xs : List D}, (d = .tup xs ∨ d = .lst xs) → evB T bd_l_is_torn ⟨[.fz (.tup (sD W)), .fz d, .un], β⟩ (finE β Q) := fun {xs} hc => by
    obtain ⟨hi, hwt, hgd, hdp⟩ := hv.items (xs := xs) hc.symm
    have hlen := wtA_len xs
    have hq : Q (.fz (.bl (tornL W xs))) := by rcases hc with rfl | rfl <;> exact q
    have hsz : ([] : List D).length + xs.length < sizeLine := by rw [sizeLine_eq]; simp; omega
    rcases hc with rfl | rfl
    all_goals
      refine And.intro (by rw [sizeLine_eq]; simp) ?_
      refine Exists.intro ["list", "tuple"] (Exists.intro true (And.intro rfl (And.intro rfl (And.intro (by first | exact isiA_t kb_tup.2.1 kb_tup.2.2.1 | exact isiA_l kb_lst.2.1) ?_))))
      refine Exists.intro true (And.intro rfl ?_)
      show (if decide ((10 : Int) < (xs.length : Int)) = true then _ else _)
      refine ifB (fun h => ?_) fun h => ?_
      · rw [decide_eq_true_eq] at h
        unfold tornL at hq
        rw [decide_eq_false (by omega : ¬ xs.length ≤ 10), Bool.false_and, Bool.false_and] at hq
        exact ⟨rfl, hq⟩
      rw [decide_eq_false_iff_not] at h
      unfold tornL at hq
      rw [decide_eq_true (by omega : xs.length ≤ 10), Bool.true_and] at hq
      refine compF (ρ := ⟨[.fz (.tup (sD W)), .fz _, .un], β⟩) (fun e => if isSt e = true then none else some e) hsz (fun x hx k hk => ?_) ?_
      · refine Exists.intro (isSt x) (And.intro (isi_str (gdA_iff.mp hgd x hx)) ?_)
        refine Exists.intro _ (And.intro rfl ?_)
        show (if (!isSt x) = true then _ else _)
        refine ifB (fun h3 => ?_) fun h3 => ?_
        · have h3 : isSt x = false := by simpa using h3
          have hk : k (if isSt x = true then none else some x) _ := hk
          rw [h3] at hk
          exact hk
        · have h3 : isSt x = true := by simpa using h3
          have hk : k (if isSt x = true then none else some x) _ := hk
          rw [h3] at hk
          exact hk
      rw [List.nil_append]
      refine And.intro (by rw [sizeLine_eq]; simp) ?_
      obtain ⟨n1, n2⟩ := ne_nil_ok (xs.filterMap fun e => if isSt e = true then none else some e)
      refine And.intro n1 ?_
      show (if (!eqD (.lst (xs.filterMap fun e => if isSt e = true then none else some e)) (.lst [])) = true then _ else _)
      rw [n2]
      refine ifB (fun h2 => ?_) fun h2 => ?_
      · have h2 : ¬ (xs.filterMap fun e => if isSt e = true then none else some e) = [] := by simpa using h2
        rw [fm_ne] at h2
        have : xs.all (entB W) = false := by
          cases e : xs.all (entB W) with
          | false => rfl
          | true =>
            refine absurd (fun x hx => ?_) h2
            have := List.all_eq_true.mp e x hx
            cases x <;> first | rfl | cases this
        rw [this, Bool.false_and] at hq
        exact ⟨rfl, hq⟩
      have h2 : (xs.filterMap fun e => if isSt e = true then none else some e) = [] := by simpa using h2
      rw [fm_ne] at h2
      obtain ⟨ss, rfl⟩ := strs_of h2
      refine compF (ρ := ⟨[.fz (.tup (sD W)), .fz _, .un], β⟩) (fun e => if entB W e = true then none else some e) hsz (fun x hx k hk => ?_) ?_
      · obtain ⟨s, hs, rfl⟩ := List.mem_map.mp hx
        refine And.intro (by rw [sizeLine_eq]; simp) ?_
        refine And.intro (by rw [sD_len, sizeLine_eq]; simp; omega) ?_
        have ein : inD (.str s) (sD W ++ sD [ques, star]) = entB W (.str s) := by
          show _ = (decide (s ∈ W) || decide (s ∈ [ques, star]))
          unfold inD
          rw [List.any_append]
          have e1 := inD_sD s W
          have e2 := inD_sD s [ques, star]
          unfold inD at e1 e2
          rw [e1, e2]
        refine And.intro (.inl ⟨rfl, by rw [List.all_append]; show ((sD W).all D.pf && (sD [ques, star]).all D.pf) = true; rw [sD_pf, sD_pf]; rfl⟩) ?_
        show (if (!inD (.str s) (sD W ++ sD [ques, star])) = true then _ else _)
        rw [ein]
        have hk : k (if entB W (.str s) = true then none else some (.str s)) _ := hk
        refine ifB (fun h3 => ?_) fun h3 => ?_
        · have h3 : entB W (.str s) = false := by simpa using h3
          rw [h3] at hk
          exact hk
        · have h3 : entB W (.str s) = true := by simpa using h3
          rw [h3] at hk
          exact hk
      rw [List.nil_append]
      refine And.intro (by rw [sizeLine_eq]; simp) ?_
      obtain ⟨n3, n4⟩ := ne_nil_ok ((sD ss).filterMap fun e => if entB W e = true then none else some e)
      refine And.intro n3 ?_
      show (if eqD (.lst ((sD ss).filterMap fun e => if entB W e = true then none else some e)) (.lst []) = true then _ else _)
      rw [n4, ← ents_sD]
      refine ifB (fun h4 => ?_) fun h4 => ?_
      · rw [h4, Bool.true_and] at hq
        refine And.intro ⟨_, rfl⟩ ?_
        refine Exists.intro ss (And.intro rfl ?_)
        refine ⟨rfl, ?_⟩
        show Q (.fz (.bl (decide (((ss.countP fun w => decide (w = star) : Nat) : Int) < 4))))
        rw [count_sD] at hq
        have e3 : decide (((ss.countP fun w => decide (w = star) : Nat) : Int) < 4) = decide ((ss.countP fun w => decide (w = star)) ≤ 3) := by
          rw [Bool.eq_iff_iff]
          simp
          omega
        rw [e3]
        exact hq
      · rw [h4, Bool.false_and] at hq
        exact ⟨rfl, hq⟩
  cases d with
  | non => exact flat rfl rfl kb_non.2.1 kb_non.2.2.1
  | bl x => exact flat rfl rfl kb_bl.2.1 kb_bl.2.2.1
  | int x => exact flat rfl rfl kb_int.2.1 kb_int.2.2.1
  | str x => exact flat rfl rfl kb_str.2.1 kb_str.2.2.1
  | dct x => exact flat rfl rfl kb_dct.2.1 kb_dct.2.2.1
  | lst xs => exact seq (.inr rfl)
  | tup xs => exact seq (.inl rfl)
  | opq _ => simp [gd] at hg
  | scr _ _ => simp [gd] at hg
  | dcn _ _ => simp [gd] at hg
end
end K62

set_option Elab.async false
set_option linter.all false
set_option autoImplicit false
set_option maxRecDepth 100000
set_option maxHeartbeats 1000000
/-! K62j: torn logs and logs drawn. -/
namespace K62
open PySem PySem.Spec PyProof.Rows L2 DI K63
def Ent (W : List Str) (e : Str) : Prop := e ∈ W ∨ e = ques ∨ e = star
section
variable {T : Tb} {β : Option Bag}
def bd_l_mixed : List CS := [.asg (.name 2) (.lst .nil), .for_ (.name 3) (.seq (.var 1)) [.expr (.mut .insert 2 (.cons (.call 6 (.cons (.var 0) (.cons (.op2 .add (.bi .len (.cons (.var 2) .nil)) (.con (.int 1))) .nil))) (.cons (.var 3) .nil)))], .ret (.var 2)]
def miSp : DSp := fun β ds Q => ∃ (b : Bag) (ws : List Str), β = some b ∧ ds = [.opq (.ref b.1), .lst (sD ws)] ∧ ws.length ≤ 100 ∧ ∀ ws' : List Str, ws'.length = ws.length → (∀ w ∈ ws', w ∈ ws) → Q (.ow (.lst (sD ws')))
theorem mi_ev (t6 : T.fn 6 = takeSp) {ds : List D} {Q : R → Prop} (h : miSp β ds Q) : evB T bd_l_mixed (sta 4 ds β) (finE β Q) := by
  obtain ⟨b, ws, rfl, rfl, h100, q⟩ := h
  show evB T _ ⟨[.fz _, .fz _, .un, .un], some b⟩ _
  refine And.intro (Nat.zero_le _) ?_
  refine forI (fun i ρ => ∃ (m : M) (l : List Str), ρ = ⟨[.fz (.opq (.ref b.1)), .fz (.lst (sD ws)), .ow (.lst (sD l)), m], some b⟩ ∧ l.length = i ∧ ∀ w ∈ l, w ∈ ws) ⟨_, [], rfl, rfl, fun _ h => nomatch h⟩ ?_ ?_
  · rintro i d _ E2 hi ⟨m, l, rfl, hl, hm⟩ hn - - -
    obtain ⟨hi0, rfl⟩ := sD_get hi
    refine And.intro ⟨_, rfl⟩ ?_
    show T.fn 6 (some b) [.opq (.ref b.1), .int (((sD l).length : Int) + 1)] _
    rw [t6, sD_len]
    refine ⟨b, _, rfl, rfl, by omega, by omega, fun r r0 r1 => ?_⟩
    obtain ⟨r, rfl⟩ := Int.eq_ofNat_of_zero_le r0
    refine And.intro (by rw [sD_len, sizeLine_eq]; omega) (And.intro r0 (And.intro (by omega) ?_))
    refine hn _ ⟨.fz (.str ws[i]), l.take r ++ [ws[i]] ++ l.drop r, ?_, ?_, fun w hw => ?_⟩
    · have e : (sD l).take (r : Int).toNat ++ [D.str ws[i]] ++ (sD l).drop (r : Int).toNat = sD (l.take r ++ [ws[i]] ++ l.drop r) := by
        rw [Int.toNat_natCast, sD_app, sD_app]
        unfold sD
        rw [List.map_take, List.map_drop]
        rfl
      rw [← e]
      rfl
    · rw [List.length_append, List.length_append, List.length_take, List.length_drop, List.length_singleton]
      omega
    · rcases List.mem_append.mp hw with h | h
      · rcases List.mem_append.mp h with h | h
        · exact hm w (List.mem_of_mem_take h)
        · rw [List.mem_singleton.mp h]; exact List.getElem_mem hi0
      · exact hm w (List.mem_of_mem_drop h)
  · rintro _ ⟨m, l, rfl, hl, hm⟩
    rw [sD_len] at hl
    exact ⟨rfl, q l hl hm⟩
def bd_l_drawn : List CS := [.asg (.name 2) (.lst .nil), .for_ (.name 3) (.range (.cons (.call 6 (.cons (.var 0) (.cons (.op2 .ix (.lst (.cons (.con (.int 4)) (.cons (.con (.int 6)) (.cons (.con (.int 11)) .nil)))) (.call 6 (.cons (.var 0) (.cons (.con (.int 3)) .nil)))) .nil))) .nil)) [.expr (.mut .append 2 (.cons (.call 8 (.cons (.var 0) (.cons (.op2 .add (.op2 .add (.bi .list (.cons (.var 1) .nil)) (.bi .list (.cons (.var 1) .nil))) (.lst (.cons (.con (.str "?")) (.cons (.con (.str "*")) .nil)))) .nil))) .nil))], .ret (.comp [4, 5] (.tup [4, 5]) (.enum (.var 2)) (.some (.or (.cmp .ne (.var 5) (.con (.str "*"))) (.cmp .lt (.cnt (.slc (.var 2) .none (.some (.var 4))) (.con (.str "*"))) (.con (.int 3))))) (.var 5))]
def drSp : DSp := fun β ds Q => ∃ (b : Bag) (W : List Str), β = some b ∧ ds = [.opq (.ref b.1), .tup (sD W)] ∧ W.length ≤ 6 ∧ ∀ t : List Str, t.length ≤ 10 → (∀ e ∈ t, Ent W e) → Q (.ow (.lst (sD t)))
theorem zip_sub {f : D → Option D} (hf : ∀ (i : Nat) (e : Str), f (.tup [.int (i : Int), .str e]) = none ∨ f (.tup [.int (i : Int), .str e]) = some (.str e)) : ∀ (xs : List Str) (n : Nat), ∃ l : List Str, (((sD xs).zipIdx n).map fun p => D.tup [.int (p.2 : Nat), p.1]).filterMap f = sD l ∧ l.Sublist xs
  | [], n => ⟨[], rfl, .slnil⟩
  | x :: xs, n => by
    obtain ⟨l, h1, h2⟩ := zip_sub hf xs (n + 1)
    show ∃ l, (((D.str x :: sD xs).zipIdx n).map fun p => D.tup [.int (p.2 : Nat), p.1]).filterMap f = sD l ∧ _
    rw [List.zipIdx_cons, List.map_cons, List.filterMap_cons]
    rcases hf n x with h | h
    · refine ⟨l, ?_, h2.cons x⟩
      have h' : f (D.tup [.int ((((D.str x, n) : D × Nat).2 : Nat) : Int), ((D.str x, n) : D × Nat).1]) = none := h
      rw [h']
      exact h1
    · refine ⟨x :: l, ?_, h2.cons_cons x⟩
      have h' : f (D.tup [.int ((((D.str x, n) : D × Nat).2 : Nat) : Int), ((D.str x, n) : D × Nat).1]) = some (.str x) := h
      rw [h']
      show D.str x :: _ = D.str x :: sD l
      rw [← h1]
def fdr (F : List Str) : D → Option D
  | .tup [.int i, .str e] => if (!decide (e = star)) || decide (((F.take i.toNat).countP fun w => decide (w = star)) < 3) then some (.str e) else none
  | _ => none
theorem cutL_to' {α : Type} (t : List α) (k : Nat) : cutL t none (some (k : Int)) = t.take k := cutL_to t k
theorem dr_ev (t6 : T.fn 6 = takeSp) (t8 : T.fn 8 = oneSp) {ds : List D} {Q : R → Prop} (h : drSp β ds Q) : evB T bd_l_drawn (sta 6 ds β) (finE β Q) := by
  obtain ⟨b, W, rfl, rfl, hW, q⟩ := h
  show evB T _ ⟨[.fz _, .fz _, .un, .un, .un, .un], some b⟩ _
  refine And.intro (Nat.zero_le _) ?_
  refine And.intro (by rw [sizeLine_eq]; simp) ?_
  show T.fn 6 (some b) [.opq (.ref b.1), .int 3] _
  rw [t6]
  refine ⟨b, _, rfl, rfl, by omega, by omega, fun r r0 r1 => ?_⟩
  have hr : ∃ n : Nat, atI [D.int 4, .int 6, .int 11] r = some (.int (n : Int)) ∧ 0 < n ∧ n ≤ 11 := by
    have : r = 0 ∨ r = 1 ∨ r = 2 := by omega
    rcases this with rfl | rfl | rfl
    · exact ⟨4, rfl, by decide, by decide⟩
    · exact ⟨6, rfl, by decide, by decide⟩
    · exact ⟨11, rfl, by decide, by decide⟩
  obtain ⟨n, hn1, hn2, hn3⟩ := hr
  refine Exists.intro _ (And.intro hn1 ?_)
  refine Exists.intro b (Exists.intro (n : Int) (And.intro rfl (And.intro rfl (And.intro (by omega) (And.intro (by omega) fun c c0 c1 => ?_)))))
  obtain ⟨c, rfl⟩ := Int.eq_ofNat_of_zero_le c0
  refine And.intro (by omega) (And.intro (by omega) ?_)
  refine forI (fun i ρ => ∃ (m : M) (F : List Str), ρ = ⟨[.fz (.opq (.ref b.1)), .fz (.tup (sD W)), .ow (.lst (sD F)), m, .un, .un], some b⟩ ∧ F.length = i ∧ ∀ e ∈ F, Ent W e) ⟨_, [], rfl, rfl, fun _ h => nomatch h⟩ ?_ ?_
  · rintro i d _ E2 hi ⟨m, F, rfl, hF, hE⟩ hn - - -
    obtain ⟨hi, rfl⟩ := rangeD_at hi
    refine And.intro ⟨_, rfl⟩ ?_
    refine And.intro (by rw [sD_len, sizeLine_eq]; omega) ?_
    refine And.intro (by rw [sizeLine_eq]; simp) ?_
    refine And.intro (by rw [List.length_append, sD_len, sizeLine_eq]; simp; omega) ?_
    show T.fn 8 (some b) [.opq (.ref b.1), .lst (sD W ++ sD W ++ sD [ques, star])] _
    rw [t8, ← sD_app, ← sD_app]
    refine ⟨b, _, _, rfl, rfl, .inl rfl, by simp [sD], by rw [sD_len]; simp; omega, fun d hd => ?_⟩
    obtain ⟨w, hw, rfl⟩ := List.mem_map.mp hd
    refine And.intro (by rw [sD_len, sizeLine_eq]; omega) ?_
    refine hn _ ⟨.fz (.int (i : Int)), F ++ [w], ?_, by rw [List.length_append, hF]; rfl, fun e he => ?_⟩
    · rw [sD_app]
      rfl
    · rcases List.mem_append.mp he with h | h
      · exact hE e h
      · rw [List.mem_singleton.mp h]
        simp at hw
        rcases hw with h | h | h
        · exact .inl h
        · exact .inr (.inl h)
        · exact .inr (.inr h)
  · rintro _ ⟨m, F, rfl, hF, hE⟩
    rw [rangeD_n] at hF
    refine compF (ρ := ⟨[.fz (.opq (.ref b.1)), .fz (.tup (sD W)), .fz (.lst (sD F)), m, .un, .un], some b⟩) (fdr F) ?_ (fun d hd k hk => ?_) ?_
    · unfold enumD
      rw [List.length_map, List.length_zipIdx, sD_len, sizeLine_eq]
      simp
      omega
    · unfold enumD at hd
      obtain ⟨⟨x, i⟩, hx, rfl⟩ := List.mem_map.mp hd
      rw [List.mem_zipIdx_iff_getElem?] at hx
      have hx : (sD F)[i]? = some x := hx
      obtain ⟨hi, rfl⟩ := sD_get hx
      refine Exists.intro _ (And.intro rfl ?_)
      have hk : k (if (!decide (F[i] = star)) || decide (((F.take (i : Int).toNat).countP fun w => decide (w = star)) < 3) then some (.str F[i]) else none) _ := hk
      rw [Int.toNat_natCast] at hk
      refine And.intro (.inl ⟨rfl, rfl⟩) ?_
      show (if (!eqD (.str F[i]) (.str "*")) = true then _ else _)
      rw [eqD_str]
      refine ifB (fun h => ?_) fun h => ?_
      · rw [show (!decide (F[i] = star)) = true from h, Bool.true_or] at hk
        exact hk
      · rw [show (!decide (F[i] = star)) = false from h, Bool.false_or] at hk
        refine And.intro ⟨_, rfl⟩ ?_
        refine Exists.intro (F.take i) (And.intro ?_ ?_)
        · rw [cut_sD, cutL_to']
          rfl
        · have e : decide ((((F.take i).countP fun w => decide (w = star) : Nat) : Int) < 3) = decide (((F.take i).countP fun w => decide (w = star)) < 3) := by
            rw [Bool.eq_iff_iff]
            simp
            omega
          show (if decide ((((F.take i).countP fun w => decide (w = star) : Nat) : Int) < 3) = true then _ else _)
          rw [e]
          refine ifB (fun h3 => ?_) fun h3 => ?_
          · rw [h3] at hk
            exact hk
          · rw [h3] at hk
            exact hk
    · obtain ⟨l, h1, h2⟩ := zip_sub (f := fdr F) (fun i e => by
        show (if (!decide (e = star)) || decide (((F.take (i : Int).toNat).countP fun w => decide (w = star)) < 3) then some (D.str e) else none) = none ∨ _
        by_cases hc : ((!decide (e = star)) || decide (((F.take (i : Int).toNat).countP fun w => decide (w = star)) < 3)) = true
        · right
          show (if (!decide (e = star)) || decide (((F.take (i : Int).toNat).countP fun w => decide (w = star)) < 3) then some (D.str e) else none) = _
          rw [if_pos hc]
        · left
          rw [if_neg hc]) F 0
      unfold enumD
      rw [List.nil_append, show ((sD F).zipIdx.map fun p => D.tup [.int (p.2 : Nat), p.1]).filterMap (fdr F) = sD l from h1]
      refine ⟨rfl, q l ?_ fun e he => hE e (h2.mem he)⟩
      have := h2.length_le
      omega
def bd_l_log_of : List CS := [.asg (.name 3) (.lst .nil), .for_ (.name 4) (.seq (.var 2)) [.asg (.name 6) (.op2 .mul (.ifx (.cmp .eq (.var 4) (.con (.str "*"))) (.call 6 (.cons (.var 0) (.cons (.con (.int 3)) .nil))) (.con (.int 1))) (.bi .len (.cons (.slc (.var 1) .none (.some (.con (.int 1)))) .nil))), .expr (.mut .extend 3 (.cons (.comp [7] (.name 7) (.range (.cons (.var 6) .nil)) .none (.ifx (.cmp .isin (.var 4) (.tup (.cons (.con (.str "?")) (.cons (.con (.str "*")) .nil)))) (.call 8 (.cons (.var 0) (.cons (.bi .list (.cons (.var 1) .nil)) .nil))) (.var 4))) .nil))], .asg (.name 5) (.call 6 (.cons (.var 0) (.cons (.op2 .add (.bi .len (.cons (.var 3) .nil)) (.con (.int 1))) .nil))), .ret (.op2 .ix (.lst (.cons (.var 3) (.cons (.op2 .add (.slc (.var 3) .none (.some (.var 5))) (.slc (.var 3) (.some (.op2 .add (.var 5) (.con (.int 1)))) .none)) (.cons (.op2 .add (.var 3) (.slc (.var 3) .none (.some (.con (.int 1))))) (.cons (.call 9 (.cons (.var 0) (.cons (.var 3) .nil))) .nil))))) (.call 6 (.cons (.var 0) (.cons (.con (.int 4)) .nil))))]
def loSp : DSp := fun β ds Q => ∃ (b : Bag) (W t : List Str), β = some b ∧ ds = [.opq (.ref b.1), .tup (sD W), .lst (sD t)] ∧ W.length ≤ 6 ∧ t.length ≤ 10 ∧ (∀ e ∈ t, Ent W e) ∧ ∀ ws : List Str, ws.length ≤ 100 → (∀ w ∈ ws, Ent W w) → Q (.fz (.lst (sD ws)))
theorem lo_ev (t6 : T.fn 6 = takeSp) (t8 : T.fn 8 = oneSp) (t9 : T.fn 9 = miSp) {ds : List D} {Q : R → Prop} (h : loSp β ds Q) : evB T bd_l_log_of (sta 8 ds β) (finE β Q) := by
  obtain ⟨b, W, t, rfl, rfl, hW, h10, hE, q⟩ := h
  show evB T _ ⟨[.fz _, .fz _, .fz _, .un, .un, .un, .un, .un], some b⟩ _
  refine And.intro (Nat.zero_le _) ?_
  refine forI (fun i ρ => ∃ (m4 m6 : M) (ws : List Str), ρ = ⟨[.fz (.opq (.ref b.1)), .fz (.tup (sD W)), .fz (.lst (sD t)), .ow (.lst (sD ws)), m4, .un, m6, .un], some b⟩ ∧ ws.length ≤ 3 * i ∧ ∀ w ∈ ws, Ent W w) ⟨_, _, [], rfl, Nat.le_refl _, (fun _ h => nomatch h)⟩ ?_ ?_
  · rintro i d _ E2 hi ⟨m4, m6, ws, rfl, hl, hw⟩ hn - - -
    obtain ⟨hi0, rfl⟩ := sD_get hi
    have he := hE _ (List.getElem_mem hi0)
    have more : ∀ (m : Nat), m ≤ 3 → (0 < m → W ≠ []) → evB T [.expr (.mut .extend 3 (.cons (.comp [7] (.name 7) (.range (.cons (.var 6) .nil)) .none (.ifx (.cmp .isin (.var 4) (.tup (.cons (.con (.str "?")) (.cons (.con (.str "*")) .nil)))) (.call 8 (.cons (.var 0) (.cons (.bi .list (.cons (.var 1) .nil)) .nil))) (.var 4))) .nil))] ⟨[.fz (.opq (.ref b.1)), .fz (.tup (sD W)), .fz (.lst (sD t)), .ow (.lst (sD ws)), .fz (.str t[i]), .un, .fz (.int (m : Int)), .un], some b⟩ E2 := fun m hm hne => by
      refine And.intro ⟨_, rfl⟩ ?_
      refine And.intro (by omega) (And.intro (by omega) ?_)
      refine compP (ρ := ⟨[.fz (.opq (.ref b.1)), .fz (.tup (sD W)), .fz (.lst (sD t)), .ow (.lst (sD ws)), .fz (.str t[i]), .un, .fz (.int (m : Int)), .un], some b⟩) (fun x => ∃ w, x = .str w ∧ Ent W w) ?_ (fun d hd k hk => ?_) fun xs hx hp => ?_
      · rw [rangeD_n, sizeLine_eq]
        show 0 + m < _
        omega
      · obtain ⟨j, hj⟩ := List.mem_iff_getElem?.mp hd
        obtain ⟨hj, rfl⟩ := rangeD_at hj
        refine And.intro (by rw [sizeLine_eq]; simp) ?_
        refine And.intro (.inl ⟨rfl, rfl⟩) ?_
        show (if inD (.str t[i]) (sD [ques, star]) = true then _ else _)
        refine ifB (fun h => ?_) fun h => ?_
        · show T.fn 8 (some b) [.opq (.ref b.1), .lst (sD W)] _
          rw [t8]
          refine ⟨b, _, _, rfl, rfl, .inl rfl, by have := hne (by omega); simpa [sD] using this, by rw [sD_len]; omega, fun d hd => ?_⟩
          obtain ⟨w, hw, rfl⟩ := List.mem_map.mp hd
          exact hk _ ⟨w, rfl, .inl hw⟩
        · exact hk _ ⟨t[i], rfl, he⟩
      · obtain ⟨ss, rfl, hs⟩ := exists_sD hp
        rw [rangeD_n, sD_len] at hx
        refine And.intro (by rw [List.nil_append, sD_len, sD_len, sizeLine_eq]; omega) ?_
        refine hn _ ⟨.fz (.str t[i]), .fz (.int (m : Int)), ws ++ ss, ?_, by rw [List.length_append]; omega, fun w h => ?_⟩
        · rw [sD_app]
          rfl
        · rcases List.mem_append.mp h with h | h
          · exact hw w h
          · exact hs w h
    have e : ((DI.cutD (sD W) none (some 1)).length : Int) = ((W.take 1).length : Nat) := by
      rw [show (1 : Int) = ((1 : Nat) : Int) from rfl, cut_sD, cutL_to', sD_len]
    have hl1 : (W.take 1).length ≤ 1 := by rw [List.length_take]; omega
    have fin : ∀ r : Nat, r ≤ 2 → CMul (r : Int) ((DI.cutD (sD W) none (some 1)).length : Int) ∧ evB T [.expr (.mut .extend 3 (.cons (.comp [7] (.name 7) (.range (.cons (.var 6) .nil)) .none (.ifx (.cmp .isin (.var 4) (.tup (.cons (.con (.str "?")) (.cons (.con (.str "*")) .nil)))) (.call 8 (.cons (.var 0) (.cons (.bi .list (.cons (.var 1) .nil)) .nil))) (.var 4))) .nil))] ⟨[.fz (.opq (.ref b.1)), .fz (.tup (sD W)), .fz (.lst (sD t)), .ow (.lst (sD ws)), .fz (.str t[i]), .un, .fz (.int ((r : Int) * ((DI.cutD (sD W) none (some 1)).length : Int))), .un], some b⟩ E2 := fun r hr => by
      refine ⟨.inl ⟨by omega, by omega⟩, ?_⟩
      have e2 : (r : Int) * ((DI.cutD (sD W) none (some 1)).length : Int) = ((r * (W.take 1).length : Nat) : Int) := by rw [e]; omega
      rw [e2]
      refine more _ ?_ fun h0 hn => ?_
      · have := Nat.mul_le_mul hr hl1
        omega
      · subst hn
        simp at h0
    refine And.intro (.inl ⟨rfl, rfl⟩) ?_
    show (if eqD (.str t[i]) (.str "*") = true then _ else _)
    refine ifB (fun h => ?_) fun h => ?_
    · show T.fn 6 (some b) [.opq (.ref b.1), .int 3] _
      rw [t6]
      refine ⟨b, _, rfl, rfl, by omega, by omega, fun r r0 r1 => ?_⟩
      obtain ⟨r, rfl⟩ := Int.eq_ofNat_of_zero_le r0
      exact fin r (by omega)
    · exact fin 1 (by omega)
  · rintro _ ⟨m4, m6, ws, rfl, hl, hw⟩
    rw [sD_len] at hl
    show T.fn 6 (some b) [.opq (.ref b.1), .int (((sD ws).length : Int) + 1)] _
    rw [t6, sD_len]
    refine ⟨b, _, rfl, rfl, by omega, by omega, fun a a0 a1 => ?_⟩
    obtain ⟨a, rfl⟩ := Int.eq_ofNat_of_zero_le a0
    have c1 : DI.cutD (sD ws) none (some (a : Int)) = sD (ws.take a) := by rw [cut_sD, cutL_to]
    have c2 : DI.cutD (sD ws) (some ((a : Int) + 1)) none = sD (ws.drop (a + 1)) := by rw [show (a : Int) + 1 = ((a + 1 : Nat) : Int) by omega, cut_sD, cutL_from]
    have c3 : DI.cutD (sD ws) none (some 1) = sD (ws.take 1) := by rw [show (1 : Int) = ((1 : Nat) : Int) from rfl, cut_sD, cutL_to]
    refine And.intro (by rw [c1, c2, sD_len, sD_len, List.length_take, List.length_drop, sizeLine_eq]; omega) ?_
    refine And.intro (by rw [c3, sD_len, sD_len, List.length_take, sizeLine_eq]; omega) ?_
    show T.fn 9 (some b) [.opq (.ref b.1), .lst (sD ws)] _
    rw [t9]
    refine ⟨b, ws, rfl, rfl, by omega, fun ws' hl' hw' => ?_⟩
    refine And.intro (by rw [sizeLine_eq]; simp) ?_
    show T.fn 6 (some b) [.opq (.ref b.1), .int 4] _
    rw [t6]
    refine ⟨b, _, rfl, rfl, by omega, by omega, fun r r0 r1 => ?_⟩
    have : r = 0 ∨ r = 1 ∨ r = 2 ∨ r = 3 := by omega
    rcases this with rfl | rfl | rfl | rfl
    · exact ⟨_, rfl, rfl, q ws (by omega) hw⟩
    · refine ⟨_, rfl, rfl, ?_⟩
      rw [c1, c2, ← sD_app]
      refine q _ (by rw [List.length_append, List.length_take, List.length_drop]; omega) fun w h => ?_
      rcases List.mem_append.mp h with h | h
      · exact hw w (List.mem_of_mem_take h)
      · exact hw w (List.mem_of_mem_drop h)
    · refine ⟨_, rfl, rfl, ?_⟩
      rw [c3, ← sD_app]
      refine q _ (by rw [List.length_append, List.length_take]; omega) fun w h => ?_
      rcases List.mem_append.mp h with h | h
      · exact hw w h
      · exact hw w (List.mem_of_mem_take h)
    · exact ⟨_, rfl, rfl, q ws' (by omega) fun w h => hw w (hw' w h)⟩
end
end K62

set_option Elab.async false
set_option linter.all false
set_option autoImplicit false
set_option maxRecDepth 100000
set_option maxHeartbeats 2000000
/-! K62k: the law. -/
namespace K62
open PySem PySem.Spec PyProof.Rows L2 DI K63
def bd_law : List CS := [.asg (.name 2) (.call 12 (.cons (.var 1) (.cons (.call 6 (.cons (.var 1) (.cons (.con (.int 7)) .nil))) .nil))), .for_ (.name 3) (.range (.cons (.con (.int 6)) .nil)) [.asg (.name 4) (.call 15 (.cons (.var 1) (.cons (.var 2) .nil))), .asg (.name 5) (.call 16 (.cons (.var 1) (.cons (.var 2) (.cons (.var 4) .nil)))), .par 12 13 (.op2 .ix (.lst (.cons (.var 4) (.cons (.bi .tuple (.cons (.var 4) .nil)) .nil))) (.call 6 (.cons (.var 1) (.cons (.con (.int 2)) .nil)))) (.bi .repr (.cons (.lst (.cons (.var 4) (.cons (.var 5) .nil))) .nil)), .asg (.name 6) (.call 13 (.cons (.var 2) (.cons (.var 4) (.cons (.var 5) .nil)))), .for_ (.name 7) (.range (.cons (.con (.int 2)) .nil)) [.ite (.or (.not (.val (.call 7 (.cons (.call 4 (.cons (.var 2) (.cons (.var 12) (.cons (.var 5) .nil)))) (.cons (.var 6) .nil))))) (.cmp .ne (.bi .repr (.cons (.lst (.cons (.var 4) (.cons (.var 5) .nil))) .nil)) (.var 13))) [.ret (.con (.bl false))] []], .asg (.name 8) (.lst (.cons (.var 12) (.cons (.op2 .add (.var 4) (.op2 .mul (.lst (.cons (.con (.str "*")) .nil)) (.con (.int 3)))) (.cons (.op2 .add (.var 4) (.lst (.cons (.con (.str "w")) .nil))) (.cons (.op2 .add (.var 4) (.op2 .mul (.lst (.cons (.con (.str "?")) .nil)) (.con (.int 9)))) (.cons (.op2 .add (.var 4) (.lst (.cons (.con (.str "A")) .nil))) (.cons (.op2 .add (.var 4) (.lst (.cons (.con (.int 0)) .nil))) (.cons (.op2 .add (.var 4) (.lst (.cons (.con .non) .nil))) .nil)))))))), .asg (.name 9) (.call 8 (.cons (.var 1) (.cons (.op2 .add (.var 8) (.lst (.cons (.call 10 (.cons (.var 1) .nil)) (.cons (.bi .dict (.cons (.comp [14] (.name 14) (.seq (.var 4)) .none (.tup (.cons (.var 14) (.cons (.con (.int 0)) .nil)))) .nil)) .nil)))) .nil))), .for_ (.name 10) (.range (.cons (.op2 .ix (.lst (.cons (.con (.int 0)) (.cons (.con (.int 0)) (.cons (.con (.int 1)) (.cons (.con (.int 2)) .nil))))) (.call 6 (.cons (.var 1) (.cons (.con (.int 4)) .nil)))) .nil)) [.asg (.name 9) (.call 11 (.cons (.var 1) (.cons (.var 9) .nil)))], .asg (.name 11) (.bi .repr (.cons (.var 9) .nil)), .for_ (.name 7) (.range (.cons (.con (.int 2)) .nil)) [.ite (.or (.not (.val (.call 7 (.cons (.call 0 (.cons (.var 2) (.cons (.var 9) .nil))) (.cons (.call 14 (.cons (.var 2) (.cons (.var 9) .nil))) .nil))))) (.cmp .ne (.bi .repr (.cons (.var 9) .nil)) (.var 11))) [.ret (.con (.bl false))] []]], .ret (.con (.bl true))]
def lbd : List CS := [.asg (.name 4) (.call 15 (.cons (.var 1) (.cons (.var 2) .nil))), .asg (.name 5) (.call 16 (.cons (.var 1) (.cons (.var 2) (.cons (.var 4) .nil)))), .par 12 13 (.op2 .ix (.lst (.cons (.var 4) (.cons (.bi .tuple (.cons (.var 4) .nil)) .nil))) (.call 6 (.cons (.var 1) (.cons (.con (.int 2)) .nil)))) (.bi .repr (.cons (.lst (.cons (.var 4) (.cons (.var 5) .nil))) .nil)), .asg (.name 6) (.call 13 (.cons (.var 2) (.cons (.var 4) (.cons (.var 5) .nil)))), .for_ (.name 7) (.range (.cons (.con (.int 2)) .nil)) [.ite (.or (.not (.val (.call 7 (.cons (.call 4 (.cons (.var 2) (.cons (.var 12) (.cons (.var 5) .nil)))) (.cons (.var 6) .nil))))) (.cmp .ne (.bi .repr (.cons (.lst (.cons (.var 4) (.cons (.var 5) .nil))) .nil)) (.var 13))) [.ret (.con (.bl false))] []], .asg (.name 8) (.lst (.cons (.var 12) (.cons (.op2 .add (.var 4) (.op2 .mul (.lst (.cons (.con (.str "*")) .nil)) (.con (.int 3)))) (.cons (.op2 .add (.var 4) (.lst (.cons (.con (.str "w")) .nil))) (.cons (.op2 .add (.var 4) (.op2 .mul (.lst (.cons (.con (.str "?")) .nil)) (.con (.int 9)))) (.cons (.op2 .add (.var 4) (.lst (.cons (.con (.str "A")) .nil))) (.cons (.op2 .add (.var 4) (.lst (.cons (.con (.int 0)) .nil))) (.cons (.op2 .add (.var 4) (.lst (.cons (.con .non) .nil))) .nil)))))))), .asg (.name 9) (.call 8 (.cons (.var 1) (.cons (.op2 .add (.var 8) (.lst (.cons (.call 10 (.cons (.var 1) .nil)) (.cons (.bi .dict (.cons (.comp [14] (.name 14) (.seq (.var 4)) .none (.tup (.cons (.var 14) (.cons (.con (.int 0)) .nil)))) .nil)) .nil)))) .nil))), .for_ (.name 10) (.range (.cons (.op2 .ix (.lst (.cons (.con (.int 0)) (.cons (.con (.int 0)) (.cons (.con (.int 1)) (.cons (.con (.int 2)) .nil))))) (.call 6 (.cons (.var 1) (.cons (.con (.int 4)) .nil)))) .nil)) [.asg (.name 9) (.call 11 (.cons (.var 1) (.cons (.var 9) .nil)))], .asg (.name 11) (.bi .repr (.cons (.var 9) .nil)), .for_ (.name 7) (.range (.cons (.con (.int 2)) .nil)) [.ite (.or (.not (.val (.call 7 (.cons (.call 0 (.cons (.var 2) (.cons (.var 9) .nil))) (.cons (.call 14 (.cons (.var 2) (.cons (.var 9) .nil))) .nil))))) (.cmp .ne (.bi .repr (.cons (.var 9) .nil)) (.var 11))) [.ret (.con (.bl false))] []]]
theorem okW_asc {w : Str} (h : okW w = true) : asc w = true := by
  unfold okW at h
  unfold asc
  rw [Bool.and_eq_true, List.all_eq_true] at h
  rw [List.all_eq_true]
  intro c hc
  have := h.2 c hc
  simp at this ⊢
  omega
/-- a short word -/
structure Wd (w : Str) : Prop where
  a : asc w = true
  l : w.length ≤ 8
theorem ent_wd {W : List Str} (hW : ∀ w ∈ W, okW w = true) {e : Str} (h : Ent W e) : Wd e := by
  rcases h with h | rfl | rfl
  · exact ⟨okW_asc (hW e h), okW_len (hW e h)⟩
  · exact ⟨by decide +kernel, by decide +kernel⟩
  · exact ⟨by decide +kernel, by decide +kernel⟩
theorem Wd.g {w : Str} (h : Wd w) : gd 0 (.str w) = true ∧ wt (.str w) ≤ 100 ∧ dp (.str w) = 0 := by
  refine ⟨by rw [gd]; exact asc_ok h.a, ?_, rfl⟩
  rw [wt]
  have := h.l
  omega
def Fl (x : D) : Prop := gd 0 x = true ∧ wt x ≤ 100 ∧ dp x = 0
theorem fl_items {xs : List D} (h : ∀ x ∈ xs, Fl x) : gdA 0 xs = true ∧ wtA xs ≤ 102 * xs.length ∧ dpA xs = 0 := by
  induction xs with
  | nil => exact ⟨rfl, Nat.le_refl _, rfl⟩
  | cons x xs ih =>
    obtain ⟨h1, h2, h3⟩ := ih fun y hy => h y (List.mem_cons_of_mem _ hy)
    obtain ⟨g1, g2, g3⟩ := h x List.mem_cons_self
    refine ⟨by rw [gdA, g1, h1]; rfl, by rw [wtA, List.length_cons]; omega, by rw [dpA, g3, h3]; rfl⟩
theorem fl_lst {xs : List D} (h : ∀ x ∈ xs, Fl x) (hl : xs.length ≤ 200) : Val 0 30000 1 (.lst xs) := by
  obtain ⟨h1, h2, h3⟩ := fl_items h
  exact .lst h1 (by omega) (by omega)
theorem fl_tup {xs : List D} (h : ∀ x ∈ xs, Fl x) (hl : xs.length ≤ 200) : Val 0 30000 1 (.tup xs) := by
  obtain ⟨h1, h2, h3⟩ := fl_items h
  exact .tup h1 (by omega) (by omega)
theorem fl_sD {t : List Str} (h : ∀ e ∈ t, Wd e) : ∀ x ∈ sD t, Fl x := fun x hx => by
  obtain ⟨e, he, rfl⟩ := List.mem_map.mp hx
  exact (h e he).g
theorem fl_app {xs ys : List D} (h : ∀ x ∈ xs, Fl x) (h' : ∀ x ∈ ys, Fl x) : ∀ x ∈ xs ++ ys, Fl x := fun x hx => by
  rcases List.mem_append.mp hx with q | q
  · exact h x q
  · exact h' x q
theorem merge_ok {t : List Str} (h : ∀ e ∈ t, Wd e) : ∀ {kvs : List (D × D)} {n : Nat}, gdK 0 kvs = true → ndK kvs = true → kvs.length ≤ n → wtK kvs ≤ 200 * n → dpK kvs ≤ 0 →
    gdK 0 (mergeDD kvs (t.map fun e => (Sum.inr e, D.int 0))) = true ∧ ndK (mergeDD kvs (t.map fun e => (Sum.inr e, D.int 0))) = true ∧ (mergeDD kvs (t.map fun e => (Sum.inr e, D.int 0))).length ≤ n + t.length ∧ wtK (mergeDD kvs (t.map fun e => (Sum.inr e, D.int 0))) ≤ 200 * (n + t.length) ∧ dpK (mergeDD kvs (t.map fun e => (Sum.inr e, D.int 0))) ≤ 0 := by
  induction t with
  | nil => intro kvs n h1 h2 h3 h4 h5; exact ⟨h1, h2, h3, h4, h5⟩
  | cons e t ih =>
    intro kvs n h1 h2 h3 h4 h5
    have he := h e List.mem_cons_self
    have q := ih (fun y hy => h y (List.mem_cons_of_mem _ hy)) (kvs := putDD kvs (.inr e) (.int 0)) (n := n + 1) (gdK_iff.mpr fun p hp => ?_) (putDD_nd h2) ?_ ?_ (dpK_le.mpr fun p hp => ?_)
    · rw [List.length_cons, show n + (t.length + 1) = n + 1 + t.length by omega]
      exact q
    · rcases putDD_mem hp with z | ⟨z | z, z2⟩
      · exact gdK_iff.mp h1 p z
      · obtain ⟨y, hy, e2⟩ := z
        rw [e2, z2]
        exact ⟨(gdK_iff.mp h1 y hy).1, (gdK_iff.mp h1 y hy).2.1, by decide +kernel⟩
      · rw [z, z2]
        exact ⟨he.a, asc_ok he.a, by decide +kernel⟩
    · have := putDD_len kvs (.inr e) (.int 0); omega
    · have := putDD_wt (k := .inr e) (d := .int 0) h2
      have h8 := he.g.2.1
      have hk : wt (kD (.inr e)) ≤ 100 := h8
      have hi : wt (.int 0) = 60 := by rw [wt]
      omega
    · rcases putDD_mem hp with z | ⟨_, z2⟩
      · exact dpK_le.mp h5 p z
      · rw [z2]; exact Nat.le_refl _
theorem dict_ok {t : List Str} (h : ∀ e ∈ t, Wd e) (hl : t.length ≤ 10) : Val 0 30000 1 (.dct (mergeDD [] (t.map fun e => (Sum.inr e, D.int 0)))) := by
  obtain ⟨h1, h2, h3, h4, h5⟩ := merge_ok h (kvs := []) (n := 0) rfl rfl (Nat.le_refl _) (Nat.le_refl _) (Nat.le_refl _)
  refine ⟨?_, ?_, ?_⟩
  · rw [gd, h1, h2, decide_eq_true (by omega)]; rfl
  · rw [wt]; omega
  · rw [dp]; omega
def wf : Nat → Nat
  | 0 => 100000
  | j + 1 => 3 * wf j + 100000
structure Tab (T : Tb) : Prop where
  t0 : T.fn 0 = itSp
  t4 : T.fn 4 = fitSp
  t6 : T.fn 6 = takeSp
  t7 : T.fn 7 = alSp
  t8 : T.fn 8 = oneSp
  t10 : T.fn 10 = oddSp
  t11 : T.fn 11 = bentSp 60
  t12 : T.fn 12 = namSp
  t13 : T.fn 13 = fiSp
  t14 : T.fn 14 = itSp
  t15 : T.fn 15 = drSp
  t16 : T.fn 16 = loSp
section
variable {T : Tb} (H : Tab T) {b : Bag} {a : Addr} {ns : List Int} {W : List Str}
include H
/-- the last part: what is judged -/
theorem judge_ev {d : D} {m9 m3 m4 m5 m6 m7 m8 m10 m11 m12 m13 : M} {E : En} (hW : W.length ≤ 6) (hm : m9 = .fz d ∨ m9 = .ow d) (hv : Val 2 1300000 36 d)
    (hn : ∀ m7 m11, E.nx ⟨[.fz (.scr a ns), .fz (.opq (.ref b.1)), .fz (.tup (sD W)), m3, m4, m5, m6, m7, m8, m9, m10, m11, m12, m13, .un], some b⟩) :
    evB T (lbd.drop 8) ⟨[.fz (.scr a ns), .fz (.opq (.ref b.1)), .fz (.tup (sD W)), m3, m4, m5, m6, m7, m8, m9, m10, m11, m12, m13, .un], some b⟩ E := by
  have shw := hv.shw (by decide) (by decide) (by decide)
  have hv' := hv.mono (show 2 ≤ 50 by decide) (show 1300000 ≤ 16000000 by decide) (show 36 ≤ 64 by decide)
  rcases hm with rfl | rfl
  all_goals
    refine And.intro shw ?_
    refine And.intro (by decide) (And.intro (by decide) ?_)
    refine forI (fun i ρ => ∃ m, ρ = ⟨[.fz (.scr a ns), .fz (.opq (.ref b.1)), .fz (.tup (sD W)), m3, m4, m5, m6, m, m8, _, m10, .fz (.str d.py.shown), m12, m13, .un], some b⟩) ⟨_, rfl⟩ ?_ ?_
    · rintro i x _ E2 - ⟨m, rfl⟩ hn - - -
      show T.fn 0 (some b) [.tup (sD W), d] _
      rw [H.t0]
      refine ⟨W, d, rfl, by omega, hv', ?_⟩
      show T.fn 14 (some b) [.tup (sD W), d] _
      rw [H.t14]
      refine ⟨W, d, rfl, by omega, hv', ?_⟩
      show T.fn 7 (some b) [.bl (tornB W d), .bl (tornB W d)] _
      rw [H.t7]
      refine ⟨_, _, rfl, ?_⟩
      rw [decide_eq_true rfl]
      refine Exists.intro _ (And.intro rfl ?_)
      refine And.intro shw ?_
      refine And.intro (.inl ⟨rfl, rfl⟩) ?_
      show (if (!eqD (.str d.py.shown) (.str d.py.shown)) = true then _ else _)
      rw [eqD_str]
      refine ifB (fun h => ?_) fun h => ?_
      · simp at h
      · exact hn _ ⟨_, rfl⟩
    · rintro _ ⟨m, rfl⟩
      exact hn _ _
/-- bends and what is behind them -/
theorem bend_ev {d : D} {m3 m4 m5 m6 m7 m8 m10 m11 m12 m13 : M} {E : En} (hW : W.length ≤ 6) (hv : Val 0 100000 12 d)
    (hn : ∀ m7 m9 m10 m11, E.nx ⟨[.fz (.scr a ns), .fz (.opq (.ref b.1)), .fz (.tup (sD W)), m3, m4, m5, m6, m7, m8, m9, m10, m11, m12, m13, .un], some b⟩) :
    evB T (lbd.drop 7) ⟨[.fz (.scr a ns), .fz (.opq (.ref b.1)), .fz (.tup (sD W)), m3, m4, m5, m6, m7, m8, .fz d, m10, m11, m12, m13, .un], some b⟩ E := by
  refine And.intro (by rw [sizeLine_eq]; simp) ?_
  show T.fn 6 (some b) [.opq (.ref b.1), .int 4] _
  rw [H.t6]
  refine ⟨b, _, rfl, rfl, by omega, by omega, fun r r0 r1 => ?_⟩
  have hr : ∃ n : Nat, atI [D.int 0, .int 0, .int 1, .int 2] r = some (.int (n : Int)) ∧ n ≤ 2 := by
    have : r = 0 ∨ r = 1 ∨ r = 2 ∨ r = 3 := by omega
    rcases this with rfl | rfl | rfl | rfl
    · exact ⟨0, rfl, by decide⟩
    · exact ⟨0, rfl, by decide⟩
    · exact ⟨1, rfl, by decide⟩
    · exact ⟨2, rfl, by decide⟩
  obtain ⟨n, hn1, hn2⟩ := hr
  refine Exists.intro _ (And.intro hn1 ?_)
  refine And.intro (by omega) (And.intro (by omega) ?_)
  refine forI (fun i ρ => ∃ (m9 m10 : M) (d : D), ρ = ⟨[.fz (.scr a ns), .fz (.opq (.ref b.1)), .fz (.tup (sD W)), m3, m4, m5, m6, m7, m8, m9, m10, m11, m12, m13, .un], some b⟩ ∧ (m9 = .fz d ∨ m9 = .ow d) ∧ Val i (wf i) (12 + 12 * i) d) ⟨.fz d, m10, d, rfl, .inl rfl, hv⟩ ?_ ?_
  · rintro i x _ E2 hi ⟨m9, m10, d, rfl, hm, hv⟩ hn - - -
    obtain ⟨hi, rfl⟩ := rangeD_at hi
    have hw : wf i ≤ 1000000 := by
      have : i = 0 ∨ i = 1 := by omega
      rcases this with rfl | rfl <;> decide
    rcases hm with rfl | rfl
    all_goals
      show T.fn 11 (some b) [.opq (.ref b.1), d] _
      rw [H.t11]
      refine ⟨b, i, wf i, 12 + 12 * i, d, rfl, rfl, by omega, by omega, hw, by omega, hv, fun d' hd => ⟨?_, ?_⟩⟩
      · refine ifS ?_
        exact hn _ ⟨_, _, d', rfl, .inl rfl, by rw [wf]; exact hd⟩
      · exact hn _ ⟨_, _, d', rfl, .inr rfl, by rw [wf]; exact hd⟩
  · rintro _ ⟨m9, m10, d, rfl, hm, hv⟩
    rw [rangeD_n] at hv
    have hw : wf n ≤ 1300000 := by
      have : n = 0 ∨ n = 1 ∨ n = 2 := by omega
      rcases this with rfl | rfl | rfl <;> decide
    exact judge_ev H hW hm (hv.mono (by omega) hw (by omega)) fun m7 m11 => hn m7 m9 m10 m11
end
end K62

set_option Elab.async false
set_option linter.all false
set_option autoImplicit false
set_option maxRecDepth 100000
set_option maxHeartbeats 2000000
/-! K62l: the law, whole. -/
namespace K62
open PySem PySem.Spec PyProof.Rows L2 DI K63
theorem wd_star : Wd star := ⟨by decide +kernel, by decide +kernel⟩
theorem wd_ques : Wd ques := ⟨by decide +kernel, by decide +kernel⟩
section
variable {T : Tb} (H : Tab T) {b : Bag} {a : Addr} {ns : List Int} {W : List Str}
include H
/-- what is drawn to be judged -/
theorem thing_ev {t ws : List Str} {hd : D} {m3 m6 m7 m8 m9 m10 m11 m13 : M} {E : En} (hW : W.length ≤ 6) (ht : IsS hd t) (ht10 : t.length ≤ 10) (hwd : ∀ e ∈ t, Wd e)
    (hn : ∀ m7 m8 m9 m10 m11, E.nx ⟨[.fz (.scr a ns), .fz (.opq (.ref b.1)), .fz (.tup (sD W)), m3, .fz (.lst (sD t)), .fz (.lst (sD ws)), m6, m7, m8, m9, m10, m11, .fz hd, m13, .un], some b⟩) :
    evB T (lbd.drop 5) ⟨[.fz (.scr a ns), .fz (.opq (.ref b.1)), .fz (.tup (sD W)), m3, .fz (.lst (sD t)), .fz (.lst (sD ws)), m6, m7, m8, m9, m10, m11, .fz hd, m13, .un], some b⟩ E := by
  have flt := fl_sD hwd
  have cv : ∀ {xs : List D}, (∀ x ∈ xs, Fl x) → xs.length ≤ 200 → Val 0 100000 12 (.lst xs) := fun h hl => (fl_lst h hl).mono (by decide) (by decide) (by decide)
  have hhd : Val 0 100000 12 hd := by
    rcases ht with rfl | rfl
    · exact cv flt (by rw [sD_len]; omega)
    · exact (fl_tup flt (by rw [sD_len]; omega)).mono (by decide) (by decide) (by decide)
  have len3 : ∀ (x : D) (k : Int), k = 3 ∨ k = 9 → [x].length * k.toNat ≤ sizeLine := fun x k h => by
    rw [sizeLine_eq]
    rcases h with rfl | rfl
    · show 1 * 3 ≤ _; omega
    · show 1 * 9 ≤ _; omega
  refine And.intro (by rw [sizeLine_eq]; simp) ?_
  refine And.intro (by decide) (And.intro (by decide) (And.intro (len3 _ _ (.inl rfl)) ?_))
  refine And.intro (by rw [sD_len, sizeLine_eq]; show t.length + 3 ≤ _; omega) ?_
  refine And.intro (by rw [sizeLine_eq]; simp) ?_
  refine And.intro (by rw [sD_len, sizeLine_eq]; simp; omega) ?_
  refine And.intro (by rw [sizeLine_eq]; simp) ?_
  refine And.intro (by decide) (And.intro (by decide) (And.intro (len3 _ _ (.inr rfl)) ?_))
  refine And.intro (by rw [sD_len, sizeLine_eq]; show t.length + 9 ≤ _; omega) ?_
  refine And.intro (by rw [sizeLine_eq]; simp) ?_
  refine And.intro (by rw [sD_len, sizeLine_eq]; simp; omega) ?_
  refine And.intro (by rw [sizeLine_eq]; simp) ?_
  refine And.intro (by rw [sD_len, sizeLine_eq]; simp; omega) ?_
  refine And.intro (by rw [sizeLine_eq]; simp) ?_
  refine And.intro (by rw [sD_len, sizeLine_eq]; simp; omega) ?_
  refine And.intro (by rw [sizeLine_eq]; simp) ?_
  show T.fn 10 (some b) [.opq (.ref b.1)] _
  rw [H.t10]
  refine ⟨b, rfl, rfl, fun od hod => ?_⟩
  refine ifS ?_
  refine compF (ρ := ⟨[.fz (.scr a ns), .fz (.opq (.ref b.1)), .fz (.tup (sD W)), m3, .fz (.lst (sD t)), .fz (.lst (sD ws)), m6, m7, .ow _, m9, m10, m11, .fz hd, m13, .un], some b⟩) (fun e => some (.tup [e, .int 0])) (by rw [sD_len, sizeLine_eq]; simp; omega) (fun d hd k hk => ?_) ?_
  · refine And.intro (by rw [sizeLine_eq]; simp) ?_
    exact hk
  rw [List.nil_append]
  refine Exists.intro (t.map fun e => (Sum.inr e, D.int 0)) (And.intro ?_ ?_)
  · unfold sD
    rw [List.filterMap_map, List.map_map, ← List.filterMap_eq_map]
    rfl
  refine And.intro (by rw [sizeLine_eq]; simp) ?_
  refine And.intro (by rw [sizeLine_eq]; simp) ?_
  show T.fn 8 (some b) [.opq (.ref b.1), .lst _] _
  rw [H.t8]
  refine ⟨b, _, _, rfl, rfl, .inl rfl, by simp, by simp, fun d hd => ?_⟩
  refine ifS ?_
  refine bend_ev H hW ?_ fun m7 m9 m10 m11 => hn m7 _ m9 m10 m11
  have rep : ∀ (w : Str) (n : Nat), Wd w → ∀ x ∈ (List.replicate n [D.str w]).flatten, Fl x := fun w n hw x hx => by
    rw [List.mem_flatten] at hx
    obtain ⟨l, h1, h2⟩ := hx
    rw [List.eq_of_mem_replicate h1] at h2
    rw [List.mem_singleton.mp h2]
    exact hw.g
  have one : ∀ {x : D}, Fl x → ∀ y ∈ [x], Fl y := fun h y hy => by rw [List.mem_singleton.mp hy]; exact h
  simp only [List.mem_append, List.mem_cons, List.not_mem_nil, or_false] at hd
  rcases hd with (rfl | rfl | rfl | rfl | rfl | rfl | rfl) | rfl | rfl
  · exact hhd
  · exact cv (fl_app flt (rep _ _ wd_star)) (by rw [List.length_append, sD_len]; show t.length + 3 ≤ _; omega)
  · exact cv (fl_app flt (one (Wd.g ⟨by decide +kernel, by decide +kernel⟩))) (by rw [List.length_append, sD_len]; simp; omega)
  · exact cv (fl_app flt (rep _ _ wd_ques)) (by rw [List.length_append, sD_len]; show t.length + 9 ≤ _; omega)
  · exact cv (fl_app flt (one (Wd.g ⟨by decide +kernel, by decide +kernel⟩))) (by rw [List.length_append, sD_len]; simp; omega)
  · exact cv (fl_app flt (one ⟨by decide +kernel, by decide +kernel, rfl⟩)) (by rw [List.length_append, sD_len]; simp; omega)
  · exact cv (fl_app flt (one ⟨by decide +kernel, by decide +kernel, rfl⟩)) (by rw [List.length_append, sD_len]; simp; omega)
  · exact hod
  · exact (dict_ok hwd ht10).mono (by decide) (by decide) (by decide)
theorem lbody_ev {m3 m4 m5 m6 m7 m8 m9 m10 m11 m12 m13 : M} {E : En} (hW : W.length ≤ 6) (hok : ∀ w ∈ W, okW w = true)
    (hn : ∀ m4 m5 m6 m7 m8 m9 m10 m11 m12 m13, E.nx ⟨[.fz (.scr a ns), .fz (.opq (.ref b.1)), .fz (.tup (sD W)), m3, m4, m5, m6, m7, m8, m9, m10, m11, m12, m13, .un], some b⟩) :
    evB T lbd ⟨[.fz (.scr a ns), .fz (.opq (.ref b.1)), .fz (.tup (sD W)), m3, m4, m5, m6, m7, m8, m9, m10, m11, m12, m13, .un], some b⟩ E := by
  show T.fn 15 (some b) [.opq (.ref b.1), .tup (sD W)] _
  rw [H.t15]
  refine ⟨b, W, rfl, rfl, hW, fun t ht10 hE => ?_⟩
  have hwd : ∀ e ∈ t, Wd e := fun e he => ent_wd hok (hE e he)
  show T.fn 16 (some b) [.opq (.ref b.1), .tup (sD W), .lst (sD t)] _
  rw [H.t16]
  refine ⟨b, W, t, rfl, rfl, hW, ht10, hE, fun ws hws hEw => ?_⟩
  have hww : ∀ e ∈ ws, Wd e := fun e he => ent_wd hok (hEw e he)
  refine And.intro (by rw [sizeLine_eq]; simp) ?_
  show T.fn 6 (some b) [.opq (.ref b.1), .int 2] _
  rw [H.t6]
  refine ⟨b, _, rfl, rfl, by omega, by omega, fun r r0 r1 => ?_⟩
  have hr : ∃ hd, atI [D.lst (sD t), .tup (sD t)] r = some hd ∧ IsS hd t := by
    have : r = 0 ∨ r = 1 := by omega
    rcases this with rfl | rfl
    · exact ⟨_, rfl, .inl rfl⟩
    · exact ⟨_, rfl, .inr rfl⟩
  obtain ⟨hd, h1, h2⟩ := hr
  refine Exists.intro hd (And.intro h1 ?_)
  refine And.intro (by rw [sizeLine_eq]; simp) ?_
  have shw : (D.lst [.lst (sD t), .lst (sD ws)]).shw = true := by
    have v1 := fl_lst (fl_sD hwd) (by rw [sD_len]; omega)
    have v2 := fl_lst (fl_sD hww) (by rw [sD_len]; omega)
    have g1 := v1.g
    have g2 := v2.g
    have w1 := v1.w
    have w2 := v2.w
    have d1 := v1.d
    have d2 := v2.d
    exact (Val.lst (b := 0) (w := 70000) (m := 3) (xs := [.lst (sD t), .lst (sD ws)]) (by rw [gdA, gdA, g1, g2]; rfl) (by rw [wtA, wtA, wtA]; omega) (by rw [dpA, dpA, dpA]; omega)).shw (by decide) (by decide) (by decide)
  refine And.intro shw ?_
  show T.fn 13 (some b) [.tup (sD W), .lst (sD t), .lst (sD ws)] _
  rw [H.t13]
  refine ⟨W, t, ws, rfl, by omega, ?_⟩
  refine And.intro (by decide) (And.intro (by decide) ?_)
  refine forI (fun i ρ => ∃ m, ρ = ⟨[.fz (.scr a ns), .fz (.opq (.ref b.1)), .fz (.tup (sD W)), m3, .fz (.lst (sD t)), .fz (.lst (sD ws)), .fz (.bl (acc t ws)), m, m8, m9, m10, m11, .fz hd, .fz (.str (D.lst [.lst (sD t), .lst (sD ws)]).py.shown), .un], some b⟩) ⟨_, rfl⟩ ?_ ?_
  · rintro i x _ E2 - ⟨m, rfl⟩ hn - - -
    show T.fn 4 (some b) [.tup (sD W), hd, .lst (sD ws)] _
    rw [H.t4]
    refine ⟨t, ws, hd, _, rfl, h2, by omega, ?_⟩
    show T.fn 7 (some b) [.bl (acc t ws), .bl (acc t ws)] _
    rw [H.t7]
    refine ⟨_, _, rfl, ?_⟩
    rw [decide_eq_true rfl]
    refine Exists.intro _ (And.intro rfl ?_)
    refine And.intro (by rw [sizeLine_eq]; simp) ?_
    refine And.intro shw ?_
    refine And.intro (.inl ⟨rfl, rfl⟩) ?_
    show (if (!eqD (.str (D.lst [.lst (sD t), .lst (sD ws)]).py.shown) (.str (D.lst [.lst (sD t), .lst (sD ws)]).py.shown)) = true then _ else _)
    rw [eqD_str]
    refine ifB (fun h => ?_) fun h => ?_
    · simp at h
    · exact hn _ ⟨_, rfl⟩
  · rintro _ ⟨m, rfl⟩
    exact thing_ev H hW h2 ht10 hwd fun m7 m8 m9 m10 m11 => hn _ _ _ _ _ _ _ _ _ _
theorem law_ev (a : Addr) (ns : List Int) (b : Bag) : evB T bd_law (lawSt 13 a ns b) finT := by
  show evB T _ ⟨[.fz (.scr a ns), .fz (.opq (.ref b.1)), .un, .un, .un, .un, .un, .un, .un, .un, .un, .un, .un, .un, .un], some b⟩ _
  show T.fn 6 (some b) [.opq (.ref b.1), .int 7] _
  rw [H.t6]
  refine ⟨b, _, rfl, rfl, by omega, by omega, fun m m0 m1 => ?_⟩
  obtain ⟨m, rfl⟩ := Int.eq_ofNat_of_zero_le m0
  show T.fn 12 (some b) [.opq (.ref b.1), .int (m : Int)] _
  rw [H.t12]
  refine ⟨b, m, rfl, rfl, by omega, fun W hW hok => ?_⟩
  refine And.intro (by decide) (And.intro (by decide) ?_)
  refine forI (fun i ρ => ∃ m3 m4 m5 m6 m7 m8 m9 m10 m11 m12 m13, ρ = ⟨[.fz (.scr a ns), .fz (.opq (.ref b.1)), .fz (.tup (sD W)), m3, m4, m5, m6, m7, m8, m9, m10, m11, m12, m13, .un], some b⟩) ⟨_, _, _, _, _, _, _, _, _, _, _, rfl⟩ ?_ ?_
  · rintro i x _ E2 - ⟨m3, m4, m5, m6, m7, m8, m9, m10, m11, m12, m13, rfl⟩ hn - - -
    exact lbody_ev H hW hok fun m4 m5 m6 m7 m8 m9 m10 m11 m12 m13 => hn _ ⟨_, _, _, _, _, _, _, _, _, _, _, rfl⟩
  · rintro _ ⟨m3, m4, m5, m6, m7, m8, m9, m10, m11, m12, m13, rfl⟩
    exact rfl
end
end K62

set_option Elab.async false
set_option linter.all false
set_option autoImplicit false
set_option maxRecDepth 100000
set_option maxHeartbeats 0
/-! ### the text of the law as bodies of the small language (printed by gen.py) -/
namespace Tx
open PySem PySem.Spec PyProof.Rows L2 DI
def top (i : Nat) : Stmt := PySem.Challenge.pw_fourfaces_k62_torn_logs_judged.main.body.getD i (.Pass ⟨0, 0, 0, 0⟩)
def fnNames : List Str := ["is_torn", "on_from", "first_spots", "behind_word", "log_fits", "_law_bag", "_law_take", "_law_alike", "_law_one", "_law_mixed", "_law_odd", "_law_bent", "_law_names", "_law_fits", "_law_is_torn", "_law_drawn", "_law_log_of", "law"]
def glNames : List Str := ["MOST_ENTRIES", "MOST_STARS"]
abbrev st_is_torn : Stmt := top 3
def sc_is_torn : SC := ⟨["watch", "thing", "entry"], defScope st_is_torn, fun _ => true, 0, fun k => fnNames.getD k "", 2, fun k => glNames.getD k ""⟩
theorem fs_is_torn : FnScope sc_is_torn.N ["watch", "thing"] sc_is_torn.sc := ⟨rfl, rfl, rfl, by decide +kernel, rfl, by decide +kernel, by decide +kernel⟩
def bd_is_torn : List CS := [.ite (.or (.not (.val (.bi .isi (.cons (.var 1) (.cons (.tup (.cons (.tyc "list") (.cons (.tyc "tuple") .nil))) .nil))))) (.cmp .gt (.bi .len (.cons (.var 1) .nil)) (.glo 0))) [.ret (.con (.bl false))] [], .ite (.not (.val (.bi .all (.cons (.comp [2] (.name 2) (.seq (.var 1)) .none (.and (.bi .isi (.cons (.var 2) (.cons (.tyc "str") .nil))) (.or (.op2 .isin (.var 2) (.var 0)) (.op2 .isin (.var 2) (.tup (.cons (.con (.str "?")) (.cons (.con (.str "*")) .nil))))))) .nil)))) [.ret (.con (.bl false))] [], .ret (.op2 .le (.bi .len (.cons (.comp [2] (.name 2) (.seq (.var 1)) (.some (.cmp .eq (.var 2) (.con (.str "*")))) (.var 2)) .nil)) (.glo 1))]
theorem ck_is_torn : chkB sc_is_torn bd_is_torn (defBody st_is_torn) = true := by decide +kernel
def dd_is_torn : He.DefD := ⟨("is_torn", none), "is_torn", "is_torn", defArgs st_is_torn, defBody st_is_torn, defScope st_is_torn, [], []⟩
abbrev st_on_from : Stmt := top 4
def sc_on_from : SC := ⟨["torn", "spots", "found", "spot"], defScope st_on_from, fun _ => true, 1, fun k => fnNames.getD k "", 2, fun k => glNames.getD k ""⟩
theorem fs_on_from : FnScope sc_on_from.N ["torn", "spots"] sc_on_from.sc := ⟨rfl, rfl, rfl, by decide +kernel, rfl, by decide +kernel, by decide +kernel⟩
def bd_on_from : List CS := [.asg (.name 2) (.lst .nil), .for_ (.name 3) (.range (.cons (.op2 .add (.bi .len (.cons (.var 0) .nil)) (.con (.int 1))) .nil)) [.ite (.or (.cmp .isin (.var 3) (.var 1)) (.and (.cmp .isin (.op2 .sub (.var 3) (.con (.int 1))) (.var 2)) (.cmp .eq (.op2 .ix (.var 0) (.op2 .sub (.var 3) (.con (.int 1)))) (.con (.str "*"))))) [.expr (.mut .append 2 (.cons (.var 3) .nil))] []], .ret (.bi .tuple (.cons (.var 2) .nil))]
theorem ck_on_from : chkB sc_on_from bd_on_from (defBody st_on_from) = true := by decide +kernel
def dd_on_from : He.DefD := ⟨("on_from", none), "on_from", "on_from", defArgs st_on_from, defBody st_on_from, defScope st_on_from, [], []⟩
abbrev st_first_spots : Stmt := top 5
def sc_first_spots : SC := ⟨["torn"], defScope st_first_spots, fun _ => true, 2, fun k => fnNames.getD k "", 2, fun k => glNames.getD k ""⟩
theorem fs_first_spots : FnScope sc_first_spots.N ["torn"] sc_first_spots.sc := ⟨rfl, rfl, rfl, by decide +kernel, rfl, by decide +kernel, by decide +kernel⟩
def bd_first_spots : List CS := [.ret (.call 1 (.cons (.var 0) (.cons (.tup (.cons (.con (.int 0)) .nil)) .nil)))]
theorem ck_first_spots : chkB sc_first_spots bd_first_spots (defBody st_first_spots) = true := by decide +kernel
def dd_first_spots : He.DefD := ⟨("first_spots", none), "first_spots", "first_spots", defArgs st_first_spots, defBody st_first_spots, defScope st_first_spots, [], []⟩
abbrev st_behind_word : Stmt := top 6
def sc_behind_word : SC := ⟨["torn", "spots", "word", "found", "spot"], defScope st_behind_word, fun _ => true, 3, fun k => fnNames.getD k "", 2, fun k => glNames.getD k ""⟩
theorem fs_behind_word : FnScope sc_behind_word.N ["torn", "spots", "word"] sc_behind_word.sc := ⟨rfl, rfl, rfl, by decide +kernel, rfl, by decide +kernel, by decide +kernel⟩
def bd_behind_word : List CS := [.asg (.name 3) (.lst .nil), .for_ (.name 4) (.seq (.var 1)) [.ite (.and (.cmp .lt (.var 4) (.bi .len (.cons (.var 0) .nil))) (.cmp .eq (.op2 .ix (.var 0) (.var 4)) (.con (.str "*")))) [.expr (.mut .append 3 (.cons (.var 4) .nil))] [.ite (.and (.cmp .lt (.var 4) (.bi .len (.cons (.var 0) .nil))) (.cmp .isin (.op2 .ix (.var 0) (.var 4)) (.tup (.cons (.con (.str "?")) (.cons (.var 2) .nil))))) [.expr (.mut .append 3 (.cons (.op2 .add (.var 4) (.con (.int 1))) .nil))] []]], .ret (.call 1 (.cons (.var 0) (.cons (.var 3) .nil)))]
theorem ck_behind_word : chkB sc_behind_word bd_behind_word (defBody st_behind_word) = true := by decide +kernel
def dd_behind_word : He.DefD := ⟨("behind_word", none), "behind_word", "behind_word", defArgs st_behind_word, defBody st_behind_word, defScope st_behind_word, [], []⟩
abbrev st_log_fits : Stmt := top 7
def sc_log_fits : SC := ⟨["watch", "torn", "words", "spots", "word"], defScope st_log_fits, fun _ => true, 4, fun k => fnNames.getD k "", 2, fun k => glNames.getD k ""⟩
theorem fs_log_fits : FnScope sc_log_fits.N ["watch", "torn", "words"] sc_log_fits.sc := ⟨rfl, rfl, rfl, by decide +kernel, rfl, by decide +kernel, by decide +kernel⟩
def bd_log_fits : List CS := [.asg (.name 3) (.call 2 (.cons (.var 1) .nil)), .for_ (.name 4) (.seq (.var 2)) [.asg (.name 3) (.call 3 (.cons (.var 1) (.cons (.var 3) (.cons (.var 4) .nil))))], .ret (.op2 .isin (.bi .len (.cons (.var 1) .nil)) (.var 3))]
theorem ck_log_fits : chkB sc_log_fits bd_log_fits (defBody st_log_fits) = true := by decide +kernel
def dd_log_fits : He.DefD := ⟨("log_fits", none), "log_fits", "log_fits", defArgs st_log_fits, defBody st_log_fits, defScope st_log_fits, [], []⟩
abbrev st_l_bag : Stmt := top 9
def sc_l_bag : SC := ⟨["_law_script", "_law_cell"], defScope st_l_bag, fun _ => true, 5, fun k => fnNames.getD k "", 2, fun k => glNames.getD k ""⟩
theorem fs_l_bag : FnScope sc_l_bag.N ["_law_script"] sc_l_bag.sc := ⟨rfl, rfl, rfl, by decide +kernel, rfl, by decide +kernel, by decide +kernel⟩
def dd_l_bag : He.DefD := ⟨("_law_bag", none), "_law_bag", "_law_bag", defArgs st_l_bag, defBody st_l_bag, defScope st_l_bag, [], []⟩
abbrev st_l_take : Stmt := top 10
def sc_l_take : SC := ⟨["_law_bag_here", "_law_many", "_law_begin", "_law_second", "_law_cell", "_law_mixed_here", "_law_value"], defScope st_l_take, fun _ => true, 6, fun k => fnNames.getD k "", 2, fun k => glNames.getD k ""⟩
theorem fs_l_take : FnScope sc_l_take.N ["_law_bag_here", "_law_many"] sc_l_take.sc := ⟨rfl, rfl, rfl, by decide +kernel, rfl, by decide +kernel, by decide +kernel⟩
def dd_l_take : He.DefD := ⟨("_law_take", none), "_law_take", "_law_take", defArgs st_l_take, defBody st_l_take, defScope st_l_take, [], []⟩
abbrev st_l_alike : Stmt := top 11
def sc_l_alike : SC := ⟨["_law_found", "_law_due"], defScope st_l_alike, fun _ => true, 7, fun k => fnNames.getD k "", 2, fun k => glNames.getD k ""⟩
theorem fs_l_alike : FnScope sc_l_alike.N ["_law_found", "_law_due"] sc_l_alike.sc := ⟨rfl, rfl, rfl, by decide +kernel, rfl, by decide +kernel, by decide +kernel⟩
def bd_l_alike : List CS := [.ret (.and (.op2 .eq (.var 0) (.var 1)) (.op2 .eq (.bi .repr (.cons (.var 0) .nil)) (.bi .repr (.cons (.var 1) .nil))))]
theorem ck_l_alike : chkB sc_l_alike bd_l_alike (defBody st_l_alike) = true := by decide +kernel
def dd_l_alike : He.DefD := ⟨("_law_alike", none), "_law_alike", "_law_alike", defArgs st_l_alike, defBody st_l_alike, defScope st_l_alike, [], []⟩
abbrev st_l_one : Stmt := top 12
def sc_l_one : SC := ⟨["_law_bag_here", "_law_things"], defScope st_l_one, fun _ => true, 8, fun k => fnNames.getD k "", 2, fun k => glNames.getD k ""⟩
theorem fs_l_one : FnScope sc_l_one.N ["_law_bag_here", "_law_things"] sc_l_one.sc := ⟨rfl, rfl, rfl, by decide +kernel, rfl, by decide +kernel, by decide +kernel⟩
def bd_l_one : List CS := [.ret (.op2 .ix (.var 1) (.call 6 (.cons (.var 0) (.cons (.bi .len (.cons (.var 1) .nil)) .nil))))]
theorem ck_l_one : chkB sc_l_one bd_l_one (defBody st_l_one) = true := by decide +kernel
def dd_l_one : He.DefD := ⟨("_law_one", none), "_law_one", "_law_one", defArgs st_l_one, defBody st_l_one, defScope st_l_one, [], []⟩
abbrev st_l_mixed : Stmt := top 13
def sc_l_mixed : SC := ⟨["_law_bag_here", "_law_things", "_law_found", "_law_thing"], defScope st_l_mixed, fun _ => true, 9, fun k => fnNames.getD k "", 2, fun k => glNames.getD k ""⟩
theorem fs_l_mixed : FnScope sc_l_mixed.N ["_law_bag_here", "_law_things"] sc_l_mixed.sc := ⟨rfl, rfl, rfl, by decide +kernel, rfl, by decide +kernel, by decide +kernel⟩
def bd_l_mixed : List CS := [.asg (.name 2) (.lst .nil), .for_ (.name 3) (.seq (.var 1)) [.expr (.mut .insert 2 (.cons (.call 6 (.cons (.var 0) (.cons (.op2 .add (.bi .len (.cons (.var 2) .nil)) (.con (.int 1))) .nil))) (.cons (.var 3) .nil)))], .ret (.var 2)]
theorem ck_l_mixed : chkB sc_l_mixed bd_l_mixed (defBody st_l_mixed) = true := by decide +kernel
def dd_l_mixed : He.DefD := ⟨("_law_mixed", none), "_law_mixed", "_law_mixed", defArgs st_l_mixed, defBody st_l_mixed, defScope st_l_mixed, [], []⟩
abbrev st_l_odd : Stmt := top 16
def sc_l_odd : SC := ⟨["_law_bag_here", "_law_deep", "_law_k", "_law_some"], defScope st_l_odd, fun _ => true, 10, fun k => fnNames.getD k "", 2, fun k => glNames.getD k ""⟩
theorem fs_l_odd : FnScope sc_l_odd.N ["_law_bag_here"] sc_l_odd.sc := ⟨rfl, rfl, rfl, by decide +kernel, rfl, by decide +kernel, by decide +kernel⟩
def bd_l_odd : List CS := [.asg (.name 1) (.call 8 (.cons (.var 0) (.cons (.lst (.cons (.lst .nil) (.cons (.tup .nil) (.cons (.con (.str "a")) (.cons .dk0 .nil))))) .nil))), .for_ (.name 2) (.range (.cons (.con (.int 8)) .nil)) [.asg (.name 1) (.ifx (.cmp .eq (.call 6 (.cons (.var 0) (.cons (.con (.int 2)) .nil))) (.con (.int 0))) (.lst (.cons (.var 1) .nil)) (.tup (.cons (.var 1) .nil)))], .asg (.name 3) (.lst (.cons (.con .non) (.cons (.con (.bl true)) (.cons (.con (.bl false)) (.cons (.con (.int 0)) (.cons (.con (.int 1)) (.cons (.op1 .neg (.con (.int 1))) (.cons (.op2 .pow (.con (.int 10)) (.con (.int 39))) (.cons (.con (.str "")) (.cons (.con (.str "a")) (.cons (.con (.str "A")) (.cons (.con (.str "ninesigns")) (.cons (.con (.str "a b")) (.cons (.con (.str "a\n")) (.cons (.lst .nil) (.cons (.tup .nil) (.cons .dk0 (.cons (.lst (.cons (.con (.str "a")) .nil)) (.cons (.tup (.cons (.con (.str "a")) .nil)) .nil))))))))))))))))))), .asg (.name 3) (.op2 .add (.var 3) (.lst (.cons (.tup (.cons (.con (.str "b")) (.cons (.con (.str "a")) .nil))) (.cons (.tup (.cons (.con (.str "a")) (.cons (.con (.str "a")) .nil))) (.cons (.tup (.cons (.con (.str "a")) (.cons (.con (.int 1)) .nil))) (.cons (.tup (.cons (.tup (.cons (.con (.str "a")) .nil)) .nil)) (.cons (.dk1 "a" (.con (.str "b"))) (.cons (.dk1 "a" (.tup .nil)) (.cons (.lst (.cons (.tup (.cons (.con (.str "a")) .nil)) (.cons (.tup .nil) .nil))) (.cons (.op2 .mul (.lst (.cons (.con (.int 0)) .nil)) (.con (.int 1500))) (.cons (.var 1) .nil))))))))))), .asg (.name 3) (.op2 .add (.var 3) (.lst (.cons (.tup (.cons (.con (.bl true)) .nil)) (.cons (.tup (.cons (.con (.bl false)) (.cons (.con (.bl true)) .nil))) (.cons (.tup (.cons (.con (.int 1)) .nil)) (.cons (.tup (.cons (.con (.int 0)) (.cons (.con (.int 1)) .nil))) (.cons (.lst (.cons (.con (.bl true)) .nil)) (.cons (.tup (.cons (.tup (.cons (.con (.bl true)) .nil)) (.cons (.lst .nil) .nil))) (.cons (.tup (.cons (.tup .nil) (.cons (.lst .nil) .nil))) (.cons (.tup (.cons (.tup .nil) (.cons (.tup .nil) .nil))) (.cons (.lst (.cons (.tup (.cons (.tup .nil) (.cons (.lst .nil) .nil))) .nil)) .nil))))))))))), .asg (.name 3) (.op2 .add (.var 3) (.lst (.cons (.tup (.cons (.con (.str "on")) .nil)) (.cons (.tup (.cons (.con (.str "end")) .nil)) (.cons (.tup (.cons (.con (.str "leave")) (.cons (.con (.str "a")) .nil))) (.cons (.tup (.cons (.con (.str "raise")) (.cons (.con (.str "a")) .nil))) (.cons (.tup (.cons (.con (.str "stop")) (.cons (.con (.str "a")) .nil))) (.cons (.tup (.cons (.con (.str "out")) (.cons (.tup (.cons (.con (.str "end")) .nil)) .nil))) (.cons (.tup (.cons (.con (.str "round")) .nil)) .nil))))))))), .asg (.name 3) (.op2 .add (.var 3) (.lst (.cons (.tup (.cons (.con (.str "do")) (.cons (.con (.str "a")) .nil))) (.cons (.tup (.cons (.con (.str "do")) (.cons (.con (.str "a")) (.cons (.tup .nil) .nil)))) (.cons (.tup (.cons (.con (.str "mark")) (.cons (.con (.str "a")) .nil))) (.cons (.tup (.cons (.con (.str "mark")) (.cons (.con (.str "a")) (.cons (.con (.int 0)) .nil)))) (.cons (.tup (.cons (.con (.str "if")) (.cons (.con (.str "a")) (.cons (.tup .nil) (.cons (.tup .nil) .nil))))) .nil))))))), .asg (.name 3) (.op2 .add (.var 3) (.lst (.cons (.tup (.cons (.con (.str "ask")) (.cons (.con (.str "a")) (.cons (.con (.int 0)) (.cons (.con (.int 0)) .nil))))) (.cons (.tup (.cons (.con (.str "loop")) (.cons (.con (.str "a")) (.cons (.tup .nil) .nil)))) (.cons (.tup (.cons (.con (.str "try")) (.cons (.tup .nil) (.cons (.tup .nil) (.cons (.tup .nil) .nil))))) (.cons (.tup (.cons (.con (.str "call")) (.cons (.con (.str "a")) .nil))) .nil)))))), .asg (.name 3) (.op2 .add (.var 3) (.lst (.cons (.tup (.cons (.con (.str "never")) (.cons (.tup (.cons (.tup (.cons (.con (.str "a")) (.cons (.con (.bl true)) .nil))) .nil)) .nil))) (.cons (.tup (.cons (.con (.str "never")) .nil)) (.cons (.con (.str "on")) .nil))))), .ret (.call 8 (.cons (.var 0) (.cons (.var 3) .nil)))]
theorem ck_l_odd : chkB sc_l_odd bd_l_odd (defBody st_l_odd) = true := by decide +kernel
def dd_l_odd : He.DefD := ⟨("_law_odd", none), "_law_odd", "_law_odd", defArgs st_l_odd, defBody st_l_odd, defScope st_l_odd, [], []⟩
abbrev st_l_bent : Stmt := top 14
def sc_l_bent : SC := ⟨["_law_bag_here", "_law_thing", "_law_way", "_law_key", "_law_found", "_law_at", "_law_some", "_law_name", "_law_one_here"], defScope st_l_bent, fun _ => true, 12, fun k => fnNames.getD k "", 2, fun k => glNames.getD k ""⟩
theorem fs_l_bent : FnScope sc_l_bent.N ["_law_bag_here", "_law_thing"] sc_l_bent.sc := ⟨rfl, rfl, rfl, by decide +kernel, rfl, by decide +kernel, by decide +kernel⟩
def bd_l_bent : List CS := [.asg (.name 2) (.call 6 (.cons (.var 0) (.cons (.con (.int 6)) .nil))), .ite (.and (.val (.bi .isi (.cons (.var 1) (.cons (.tyc "dict") .nil)))) (.and (.cmp .gt (.bi .len (.cons (.var 1) .nil)) (.con (.int 0))) (.cmp .lt (.var 2) (.con (.int 5))))) [.asg (.name 3) (.call 8 (.cons (.var 0) (.cons (.bi .sorted (.cons (.var 1) .nil)) .nil))), .asg (.name 4) (.bi .dict (.cons (.compk [8] (.name 8) 1 (.some (.cmp .ne (.var 8) (.var 3))) (.tup (.cons (.var 8) (.cons (.op2 .ix (.var 1) (.var 8)) .nil)))) .nil)), .ite (.cmp .gt (.var 2) (.con (.int 0))) [.asg (.name 7) (.op2 .ix (.lst (.cons (.var 3) (.cons (.var 3) (.cons (.op2 .add (.var 3) (.con (.str "a"))) (.cons (.upper (.var 3)) (.cons (.var 3) .nil)))))) (.var 2)), .dset 4 (.var 7) (.ifx (.cmp .isin (.var 2) (.tup (.cons (.con (.int 1)) (.cons (.con (.int 4)) .nil)))) (.call 11 (.cons (.var 0) (.cons (.op2 .ix (.var 1) (.var 3)) .nil))) (.op2 .ix (.var 1) (.var 3)))] [], .ret (.var 4)] [], .ite (.or (.not (.val (.bi .isi (.cons (.var 1) (.cons (.tup (.cons (.tyc "list") (.cons (.tyc "tuple") .nil))) .nil))))) (.or (.cmp .eq (.bi .len (.cons (.var 1) .nil)) (.con (.int 0))) (.cmp .eq (.var 2) (.con (.int 5))))) [.ite (.and (.val (.bi .isi (.cons (.var 1) (.cons (.tyc "str") .nil)))) (.cmp .lt (.var 2) (.con (.int 3)))) [.ret (.op2 .ix (.lst (.cons (.op2 .add (.var 1) (.con (.str "a"))) (.cons (.slc (.var 1) .none (.some (.op1 .neg (.con (.int 1))))) (.cons (.con (.str "z")) .nil)))) (.var 2))] [], .ite (.and (.val (.bi .isi (.cons (.var 1) (.cons (.tyc "int") .nil)))) (.and (.not (.val (.bi .isi (.cons (.var 1) (.cons (.tyc "bool") .nil))))) (.cmp .lt (.var 2) (.con (.int 3))))) [.ret (.op2 .ix (.lst (.cons (.op2 .add (.var 1) (.con (.int 1))) (.cons (.op2 .sub (.var 1) (.con (.int 1))) (.cons (.bi .str (.cons (.var 1) .nil)) .nil)))) (.var 2))] [], .ret (.call 10 (.cons (.var 0) .nil))] [], .par 5 6 (.call 6 (.cons (.var 0) (.cons (.bi .len (.cons (.var 1) .nil)) .nil))) (.bi .list (.cons (.var 1) .nil)), .ite (.cmp .eq (.var 2) (.con (.int 0))) [.expr (.mut .popAt 6 (.cons (.var 5) .nil))] [.ite (.cmp .eq (.var 2) (.con (.int 1))) [.expr (.mut .insert 6 (.cons (.var 5) (.cons (.op2 .ix (.var 1) (.var 5)) .nil)))] [.ite (.cmp .eq (.var 2) (.con (.int 2))) [.ret (.ifx (.val (.bi .isi (.cons (.var 1) (.cons (.tyc "tuple") .nil)))) (.var 6) (.bi .tuple (.cons (.var 6) .nil)))] [.sub 6 (.var 5) (.call 11 (.cons (.var 0) (.cons (.op2 .ix (.var 6) (.var 5)) .nil)))]]], .ret (.ifx (.val (.bi .isi (.cons (.var 1) (.cons (.tyc "tuple") .nil)))) (.bi .tuple (.cons (.var 6) .nil)) (.var 6))]
theorem ck_l_bent : chkB sc_l_bent bd_l_bent (defBody st_l_bent) = true := by decide +kernel
def dd_l_bent : He.DefD := ⟨("_law_bent", none), "_law_bent", "_law_bent", defArgs st_l_bent, defBody st_l_bent, defScope st_l_bent, [], []⟩
abbrev st_l_names : Stmt := top 15
def sc_l_names : SC := ⟨["_law_bag_here", "_law_many", "_law_menu", "_law_letters", "_law_stem", "_law_way", "_law_turn", "_law_k"], defScope st_l_names, fun _ => true, 12, fun k => fnNames.getD k "", 2, fun k => glNames.getD k ""⟩
theorem fs_l_names : FnScope sc_l_names.N ["_law_bag_here", "_law_many"] sc_l_names.sc := ⟨rfl, rfl, rfl, by decide +kernel, rfl, by decide +kernel, by decide +kernel⟩
def bd_l_names : List CS := [.asg (.name 2) (.meth .split (.con (.str "do of case end if else loop block leave again mark yes no at try on")) (.con (.str " "))), .asg (.tup [5, 6]) (.tup (.cons (.call 6 (.cons (.var 0) (.cons (.con (.int 5)) .nil))) (.cons (.call 6 (.cons (.var 0) (.cons (.con (.int 16)) .nil))) .nil))), .ite (.cmp .eq (.var 5) (.con (.int 0))) [.ret (.bi .tuple (.cons (.bi .sorted (.cons (.slc (.op2 .add (.slc (.var 2) (.some (.var 6)) .none) (.slc (.var 2) .none (.some (.var 6)))) .none (.some (.var 1))) .nil)) .nil))] [], .ite (.cmp .eq (.var 5) (.con (.int 1))) [.ret (.bi .tuple (.cons (.comp [7] (.name 7) (.range (.cons (.var 1) .nil)) .none (.slc (.con (.str "aaaaaaaa")) .none (.some (.op2 .add (.var 7) (.con (.int 1)))))) .nil))] [], .asg (.name 3) (.con (.str "abcdefghijklmnopqrstuvwxyz")), .asg (.name 4) (.op2 .ix (.lst (.cons (.con (.str "")) (.cons (.con (.str "")) (.cons (.op2 .ix (.var 3) (.var 6)) (.cons (.con (.str "zzzzzzz")) .nil))))) (.op2 .sub (.var 5) (.con (.int 1)))), .ret (.bi .tuple (.cons (.bi .sorted (.cons (.comp [7] (.name 7) (.range (.cons (.var 1) .nil)) .none (.op2 .add (.var 4) (.op2 .ix (.var 3) (.op2 .mod (.bi .int (.cons (.op2 .add (.var 6) (.op2 .mul (.con (.int 3)) (.var 7))) .nil)) (.con (.int 26)))))) .nil)) .nil))]
theorem ck_l_names : chkB sc_l_names bd_l_names (defBody st_l_names) = true := by decide +kernel
def dd_l_names : He.DefD := ⟨("_law_names", none), "_law_names", "_law_names", defArgs st_l_names, defBody st_l_names, defScope st_l_names, [], []⟩
abbrev st_l_fits : Stmt := top 17
def sc_l_fits : SC := ⟨["_law_watch", "_law_torn", "_law_log", "_law_reached", "_law_entry", "_law_fits_here", "_law_at"], defScope st_l_fits, fun _ => true, 13, fun k => fnNames.getD k "", 2, fun k => glNames.getD k ""⟩
theorem fs_l_fits : FnScope sc_l_fits.N ["_law_watch", "_law_torn", "_law_log"] sc_l_fits.sc := ⟨rfl, rfl, rfl, by decide +kernel, rfl, by decide +kernel, by decide +kernel⟩
def bd_l_fits : List CS := [.asg (.name 3) (.op2 .add (.lst (.cons (.con (.bl true)) .nil)) (.op2 .mul (.lst (.cons (.con (.bl false)) .nil)) (.bi .len (.cons (.var 2) .nil)))), .for_ (.name 4) (.seq (.var 1)) [.ite (.cmp .eq (.var 4) (.con (.str "*"))) [.asg (.name 3) (.comp [6] (.name 6) (.range (.cons (.op2 .add (.bi .len (.cons (.var 2) .nil)) (.con (.int 1))) .nil)) .none (.op2 .isin (.con (.bl true)) (.slc (.var 3) .none (.some (.op2 .add (.var 6) (.con (.int 1)))))))] [.asg (.name 5) (.comp [6] (.name 6) (.range (.cons (.bi .len (.cons (.var 2) .nil)) .nil)) .none (.and (.op2 .ix (.var 3) (.var 6)) (.op2 .isin (.var 4) (.tup (.cons (.con (.str "?")) (.cons (.op2 .ix (.var 2) (.var 6)) .nil)))))), .asg (.name 3) (.op2 .add (.lst (.cons (.con (.bl false)) .nil)) (.var 5))]], .ret (.op2 .ix (.var 3) (.op1 .neg (.con (.int 1))))]
theorem ck_l_fits : chkB sc_l_fits bd_l_fits (defBody st_l_fits) = true := by decide +kernel
def dd_l_fits : He.DefD := ⟨("_law_fits", none), "_law_fits", "_law_fits", defArgs st_l_fits, defBody st_l_fits, defScope st_l_fits, [], []⟩
abbrev st_l_is_torn : Stmt := top 18
def sc_l_is_torn : SC := ⟨["_law_watch", "_law_thing", "_law_one_here"], defScope st_l_is_torn, fun _ => true, 14, fun k => fnNames.getD k "", 2, fun k => glNames.getD k ""⟩
theorem fs_l_is_torn : FnScope sc_l_is_torn.N ["_law_watch", "_law_thing"] sc_l_is_torn.sc := ⟨rfl, rfl, rfl, by decide +kernel, rfl, by decide +kernel, by decide +kernel⟩
def bd_l_is_torn : List CS := [.ite (.or (.not (.val (.bi .isi (.cons (.var 1) (.cons (.tup (.cons (.tyc "list") (.cons (.tyc "tuple") .nil))) .nil))))) (.cmp .gt (.bi .len (.cons (.var 1) .nil)) (.con (.int 10)))) [.ret (.con (.bl false))] [], .ite (.cmp .ne (.comp [2] (.name 2) (.seq (.var 1)) (.some (.not (.val (.bi .isi (.cons (.var 2) (.cons (.tyc "str") .nil)))))) (.var 2)) (.lst .nil)) [.ret (.con (.bl false))] [], .ret (.and (.op2 .eq (.comp [2] (.name 2) (.seq (.var 1)) (.some (.cmp .notin (.var 2) (.op2 .add (.var 0) (.tup (.cons (.con (.str "?")) (.cons (.con (.str "*")) .nil)))))) (.var 2)) (.lst .nil)) (.op2 .lt (.cnt (.bi .list (.cons (.var 1) .nil)) (.con (.str "*"))) (.con (.int 4))))]
theorem ck_l_is_torn : chkB sc_l_is_torn bd_l_is_torn (defBody st_l_is_torn) = true := by decide +kernel
def dd_l_is_torn : He.DefD := ⟨("_law_is_torn", none), "_law_is_torn", "_law_is_torn", defArgs st_l_is_torn, defBody st_l_is_torn, defScope st_l_is_torn, [], []⟩
abbrev st_l_drawn : Stmt := top 19
def sc_l_drawn : SC := ⟨["_law_bag_here", "_law_watch", "_law_found", "_law_k", "_law_at", "_law_entry"], defScope st_l_drawn, fun _ => true, 15, fun k => fnNames.getD k "", 2, fun k => glNames.getD k ""⟩
theorem fs_l_drawn : FnScope sc_l_drawn.N ["_law_bag_here", "_law_watch"] sc_l_drawn.sc := ⟨rfl, rfl, rfl, by decide +kernel, rfl, by decide +kernel, by decide +kernel⟩
def bd_l_drawn : List CS := [.asg (.name 2) (.lst .nil), .for_ (.name 3) (.range (.cons (.call 6 (.cons (.var 0) (.cons (.op2 .ix (.lst (.cons (.con (.int 4)) (.cons (.con (.int 6)) (.cons (.con (.int 11)) .nil)))) (.call 6 (.cons (.var 0) (.cons (.con (.int 3)) .nil)))) .nil))) .nil)) [.expr (.mut .append 2 (.cons (.call 8 (.cons (.var 0) (.cons (.op2 .add (.op2 .add (.bi .list (.cons (.var 1) .nil)) (.bi .list (.cons (.var 1) .nil))) (.lst (.cons (.con (.str "?")) (.cons (.con (.str "*")) .nil)))) .nil))) .nil))], .ret (.comp [4, 5] (.tup [4, 5]) (.enum (.var 2)) (.some (.or (.cmp .ne (.var 5) (.con (.str "*"))) (.cmp .lt (.cnt (.slc (.var 2) .none (.some (.var 4))) (.con (.str "*"))) (.con (.int 3))))) (.var 5))]
theorem ck_l_drawn : chkB sc_l_drawn bd_l_drawn (defBody st_l_drawn) = true := by decide +kernel
def dd_l_drawn : He.DefD := ⟨("_law_drawn", none), "_law_drawn", "_law_drawn", defArgs st_l_drawn, defBody st_l_drawn, defScope st_l_drawn, [], []⟩
abbrev st_l_log_of : Stmt := top 20
def sc_l_log_of : SC := ⟨["_law_bag_here", "_law_watch", "_law_torn", "_law_found", "_law_entry", "_law_at", "_law_many", "_law_k"], defScope st_l_log_of, fun _ => true, 16, fun k => fnNames.getD k "", 2, fun k => glNames.getD k ""⟩
theorem fs_l_log_of : FnScope sc_l_log_of.N ["_law_bag_here", "_law_watch", "_law_torn"] sc_l_log_of.sc := ⟨rfl, rfl, rfl, by decide +kernel, rfl, by decide +kernel, by decide +kernel⟩
def bd_l_log_of : List CS := [.asg (.name 3) (.lst .nil), .for_ (.name 4) (.seq (.var 2)) [.asg (.name 6) (.op2 .mul (.ifx (.cmp .eq (.var 4) (.con (.str "*"))) (.call 6 (.cons (.var 0) (.cons (.con (.int 3)) .nil))) (.con (.int 1))) (.bi .len (.cons (.slc (.var 1) .none (.some (.con (.int 1)))) .nil))), .expr (.mut .extend 3 (.cons (.comp [7] (.name 7) (.range (.cons (.var 6) .nil)) .none (.ifx (.cmp .isin (.var 4) (.tup (.cons (.con (.str "?")) (.cons (.con (.str "*")) .nil)))) (.call 8 (.cons (.var 0) (.cons (.bi .list (.cons (.var 1) .nil)) .nil))) (.var 4))) .nil))], .asg (.name 5) (.call 6 (.cons (.var 0) (.cons (.op2 .add (.bi .len (.cons (.var 3) .nil)) (.con (.int 1))) .nil))), .ret (.op2 .ix (.lst (.cons (.var 3) (.cons (.op2 .add (.slc (.var 3) .none (.some (.var 5))) (.slc (.var 3) (.some (.op2 .add (.var 5) (.con (.int 1)))) .none)) (.cons (.op2 .add (.var 3) (.slc (.var 3) .none (.some (.con (.int 1))))) (.cons (.call 9 (.cons (.var 0) (.cons (.var 3) .nil))) .nil))))) (.call 6 (.cons (.var 0) (.cons (.con (.int 4)) .nil))))]
theorem ck_l_log_of : chkB sc_l_log_of bd_l_log_of (defBody st_l_log_of) = true := by decide +kernel
def dd_l_log_of : He.DefD := ⟨("_law_log_of", none), "_law_log_of", "_law_log_of", defArgs st_l_log_of, defBody st_l_log_of, defScope st_l_log_of, [], []⟩
abbrev st_law : Stmt := top 21
def sc_law : SC := ⟨["_law_script", "_law_bag_here", "_law_watch", "_law_k", "_law_torn", "_law_log", "_law_due", "_law_again", "_law_near", "_law_thing", "_law_bend", "_law_looked", "_law_handed", "_law_kept", "_law_entry"], defScope st_law, fun _ => true, 17, fun k => fnNames.getD k "", 2, fun k => glNames.getD k ""⟩
theorem fs_law : FnScope sc_law.N ["_law_script"] sc_law.sc := ⟨rfl, rfl, rfl, by decide +kernel, rfl, by decide +kernel, by decide +kernel⟩
def bd_law : List CS := [.asg (.name 2) (.call 12 (.cons (.var 1) (.cons (.call 6 (.cons (.var 1) (.cons (.con (.int 7)) .nil))) .nil))), .for_ (.name 3) (.range (.cons (.con (.int 6)) .nil)) [.asg (.name 4) (.call 15 (.cons (.var 1) (.cons (.var 2) .nil))), .asg (.name 5) (.call 16 (.cons (.var 1) (.cons (.var 2) (.cons (.var 4) .nil)))), .par 12 13 (.op2 .ix (.lst (.cons (.var 4) (.cons (.bi .tuple (.cons (.var 4) .nil)) .nil))) (.call 6 (.cons (.var 1) (.cons (.con (.int 2)) .nil)))) (.bi .repr (.cons (.lst (.cons (.var 4) (.cons (.var 5) .nil))) .nil)), .asg (.name 6) (.call 13 (.cons (.var 2) (.cons (.var 4) (.cons (.var 5) .nil)))), .for_ (.name 7) (.range (.cons (.con (.int 2)) .nil)) [.ite (.or (.not (.val (.call 7 (.cons (.call 4 (.cons (.var 2) (.cons (.var 12) (.cons (.var 5) .nil)))) (.cons (.var 6) .nil))))) (.cmp .ne (.bi .repr (.cons (.lst (.cons (.var 4) (.cons (.var 5) .nil))) .nil)) (.var 13))) [.ret (.con (.bl false))] []], .asg (.name 8) (.lst (.cons (.var 12) (.cons (.op2 .add (.var 4) (.op2 .mul (.lst (.cons (.con (.str "*")) .nil)) (.con (.int 3)))) (.cons (.op2 .add (.var 4) (.lst (.cons (.con (.str "w")) .nil))) (.cons (.op2 .add (.var 4) (.op2 .mul (.lst (.cons (.con (.str "?")) .nil)) (.con (.int 9)))) (.cons (.op2 .add (.var 4) (.lst (.cons (.con (.str "A")) .nil))) (.cons (.op2 .add (.var 4) (.lst (.cons (.con (.int 0)) .nil))) (.cons (.op2 .add (.var 4) (.lst (.cons (.con .non) .nil))) .nil)))))))), .asg (.name 9) (.call 8 (.cons (.var 1) (.cons (.op2 .add (.var 8) (.lst (.cons (.call 10 (.cons (.var 1) .nil)) (.cons (.bi .dict (.cons (.comp [14] (.name 14) (.seq (.var 4)) .none (.tup (.cons (.var 14) (.cons (.con (.int 0)) .nil)))) .nil)) .nil)))) .nil))), .for_ (.name 10) (.range (.cons (.op2 .ix (.lst (.cons (.con (.int 0)) (.cons (.con (.int 0)) (.cons (.con (.int 1)) (.cons (.con (.int 2)) .nil))))) (.call 6 (.cons (.var 1) (.cons (.con (.int 4)) .nil)))) .nil)) [.asg (.name 9) (.call 11 (.cons (.var 1) (.cons (.var 9) .nil)))], .asg (.name 11) (.bi .repr (.cons (.var 9) .nil)), .for_ (.name 7) (.range (.cons (.con (.int 2)) .nil)) [.ite (.or (.not (.val (.call 7 (.cons (.call 0 (.cons (.var 2) (.cons (.var 9) .nil))) (.cons (.call 14 (.cons (.var 2) (.cons (.var 9) .nil))) .nil))))) (.cmp .ne (.bi .repr (.cons (.var 9) .nil)) (.var 11))) [.ret (.con (.bl false))] []]], .ret (.con (.bl true))]
theorem ck_law : chkB sc_law bd_law (defBody st_law).tail = true := by decide +kernel
def dd_law : He.DefD := ⟨("law", none), "law", "law", defArgs st_law, defBody st_law, defScope st_law, [], []⟩
def fns : List He.DefD := [dd_is_torn, dd_on_from, dd_first_spots, dd_behind_word, dd_log_fits, dd_l_bag, dd_l_take, dd_l_alike, dd_l_one, dd_l_mixed, dd_l_odd, dd_l_bent, dd_l_names, dd_l_fits, dd_l_is_torn, dd_l_drawn, dd_l_log_of, dd_law]
def fas : List He.Fa := [.glo "is_torn", .glo "on_from", .glo "first_spots", .glo "behind_word", .glo "log_fits", .glo "_law_bag", .glo "_law_take", .glo "_law_alike", .glo "_law_one", .glo "_law_mixed", .glo "_law_odd", .glo "_law_bent", .glo "_law_names", .glo "_law_fits", .glo "_law_is_torn", .glo "_law_drawn", .glo "_law_log_of", .glo "law"] ++ ([.int "MOST_ENTRIES" 10, .int "MOST_STARS" 3] ++ bnames.map .free)
-- order: 0 is_torn, 1 on_from, 2 first_spots, 3 behind_word, 4 log_fits, 5 _law_bag, 6 _law_take, 7 _law_alike, 8 _law_one, 9 _law_mixed, 10 _law_odd, 11 _law_bent, 12 _law_names, 13 _law_fits, 14 _law_is_torn, 15 _law_drawn, 16 _law_log_of, 17 law
def loose0 : List PySem.Str := ["is_torn", "on_from", "first_spots", "behind_word", "log_fits", "_law_bag", "_law_take", "_law_alike", "_law_one", "_law_mixed", "_law_bent", "_law_names", "_law_odd", "_law_fits", "_law_is_torn", "_law_drawn", "_law_log_of", "MOST_ENTRIES", "MOST_STARS"]
def loose : List PySem.Str := loose0
abbrev Rw : PySem.W.OpenRow := PySem.W.OpenLaw.row PySem.Challenge.rw_fourfaces_k62_torn_logs_judged
abbrev hk : PySem.W.Hook := hookS 4 fas fns
def ob (s : PySem.W.SharedT) : He.AlD × Bool := (He.obsDG 4 fas fns (HandSHeadRun.getT s), isDictAt (HandSHeadRun.getT s) sysModules)
theorem ob_eq (s : PySem.W.SharedT) : ob s = hk.obs s.abs := by
  have e : HandSHeadRun.getT s = s.abs.heap.get? := funext (HandSHeadRun.getT_eq s)
  unfold ob
  rw [e]
  rfl
theorem run (w : World) : HandSHeadRun.RunEq Rw (PySem.W.view Rw.prog [21]) hk ob 1720 loose w := by
  intro os
  kernel_rfl
def lawAt : Nat := 21
end Tx
namespace K62
open PySem PySem.Spec PyProof.Rows L2 DI K63
section
variable {β : Option Bag} {ds : List D} {Q : R → Prop}
theorem it_mono (β : Option Bag) (ds : List D) (Q Q' : R → Prop) (f : ∀ r, Q r → Q' r) (h : itSp β ds Q) : itSp β ds Q' := by
  obtain ⟨W, d, h1, h2, h3, q⟩ := h
  exact ⟨W, d, h1, h2, h3, f _ q⟩
theorem it_ar (h : itSp β ds Q) : ds.length = 2 := by
  obtain ⟨_, _, rfl, _, _, _⟩ := h
  rfl
theorem on_mono (β : Option Bag) (ds : List D) (Q Q' : R → Prop) (f : ∀ r, Q r → Q' r) (h : onSp β ds Q) : onSp β ds Q' := by
  obtain ⟨t, l, td, sd, h1, h2, h3, h4, q⟩ := h
  exact ⟨t, l, td, sd, h1, h2, h3, h4, f _ q⟩
theorem on_ar (h : onSp β ds Q) : ds.length = 2 := by
  obtain ⟨_, _, _, _, rfl, _, _, _, _⟩ := h
  rfl
theorem first_mono (β : Option Bag) (ds : List D) (Q Q' : R → Prop) (f : ∀ r, Q r → Q' r) (h : firstSp β ds Q) : firstSp β ds Q' := by
  obtain ⟨t, td, h1, h2, h3, q⟩ := h
  exact ⟨t, td, h1, h2, h3, f _ q⟩
theorem first_ar (h : firstSp β ds Q) : ds.length = 1 := by
  obtain ⟨_, _, rfl, _, _, _⟩ := h
  rfl
theorem beh_mono (β : Option Bag) (ds : List D) (Q Q' : R → Prop) (f : ∀ r, Q r → Q' r) (h : behSp β ds Q) : behSp β ds Q' := by
  obtain ⟨t, l, w, td, h1, h2, h3, h4, q⟩ := h
  exact ⟨t, l, w, td, h1, h2, h3, h4, f _ q⟩
theorem beh_ar (h : behSp β ds Q) : ds.length = 3 := by
  obtain ⟨_, _, _, _, rfl, _, _, _, _⟩ := h
  rfl
theorem fit_mono (β : Option Bag) (ds : List D) (Q Q' : R → Prop) (f : ∀ r, Q r → Q' r) (h : fitSp β ds Q) : fitSp β ds Q' := by
  obtain ⟨t, ws, td, wd, h1, h2, h3, q⟩ := h
  exact ⟨t, ws, td, wd, h1, h2, h3, f _ q⟩
theorem fit_ar (h : fitSp β ds Q) : ds.length = 3 := by
  obtain ⟨_, _, _, _, rfl, _, _, _⟩ := h
  rfl
theorem al_mono (β : Option Bag) (ds : List D) (Q Q' : R → Prop) (f : ∀ r, Q r → Q' r) (h : alSp β ds Q) : alSp β ds Q' := by
  obtain ⟨x, y, h1, q⟩ := h
  exact ⟨x, y, h1, f _ q⟩
theorem al_ar (h : alSp β ds Q) : ds.length = 2 := by
  obtain ⟨_, _, rfl, _⟩ := h
  rfl
theorem one_mono (β : Option Bag) (ds : List D) (Q Q' : R → Prop) (f : ∀ r, Q r → Q' r) (h : oneSp β ds Q) : oneSp β ds Q' := by
  obtain ⟨b, l, ld, h1, h2, h3, h4, h5, q⟩ := h
  exact ⟨b, l, ld, h1, h2, h3, h4, h5, fun w hw => f _ (q w hw)⟩
theorem one_ar (h : oneSp β ds Q) : ds.length = 2 := by
  obtain ⟨_, _, _, _, rfl, _, _, _, _⟩ := h
  rfl
theorem mi_mono (β : Option Bag) (ds : List D) (Q Q' : R → Prop) (f : ∀ r, Q r → Q' r) (h : miSp β ds Q) : miSp β ds Q' := by
  obtain ⟨b, ws, h1, h2, h3, q⟩ := h
  exact ⟨b, ws, h1, h2, h3, fun w h4 h5 => f _ (q w h4 h5)⟩
theorem mi_ar (h : miSp β ds Q) : ds.length = 2 := by
  obtain ⟨_, _, _, rfl, _, _⟩ := h
  rfl
theorem odd_mono (β : Option Bag) (ds : List D) (Q Q' : R → Prop) (f : ∀ r, Q r → Q' r) (h : oddSp β ds Q) : oddSp β ds Q' := by
  obtain ⟨b, h1, h2, q⟩ := h
  exact ⟨b, h1, h2, fun d hd => f _ (q d hd)⟩
theorem odd_ar (h : oddSp β ds Q) : ds.length = 1 := by
  obtain ⟨_, _, rfl, _⟩ := h
  rfl
theorem nam_mono (β : Option Bag) (ds : List D) (Q Q' : R → Prop) (f : ∀ r, Q r → Q' r) (h : namSp β ds Q) : namSp β ds Q' := by
  obtain ⟨b, m, h1, h2, h3, q⟩ := h
  exact ⟨b, m, h1, h2, h3, fun W h4 h5 => f _ (q W h4 h5)⟩
theorem nam_ar (h : namSp β ds Q) : ds.length = 2 := by
  obtain ⟨_, _, _, rfl, _, _⟩ := h
  rfl
theorem fi_mono (β : Option Bag) (ds : List D) (Q Q' : R → Prop) (f : ∀ r, Q r → Q' r) (h : fiSp β ds Q) : fiSp β ds Q' := by
  obtain ⟨W, t, ws, h1, h2, q⟩ := h
  exact ⟨W, t, ws, h1, h2, f _ q⟩
theorem fi_ar (h : fiSp β ds Q) : ds.length = 3 := by
  obtain ⟨_, _, _, rfl, _, _⟩ := h
  rfl
theorem dr_mono (β : Option Bag) (ds : List D) (Q Q' : R → Prop) (f : ∀ r, Q r → Q' r) (h : drSp β ds Q) : drSp β ds Q' := by
  obtain ⟨b, W, h1, h2, h3, q⟩ := h
  exact ⟨b, W, h1, h2, h3, fun t h4 h5 => f _ (q t h4 h5)⟩
theorem dr_ar (h : drSp β ds Q) : ds.length = 2 := by
  obtain ⟨_, _, _, rfl, _, _⟩ := h
  rfl
theorem lo_mono (β : Option Bag) (ds : List D) (Q Q' : R → Prop) (f : ∀ r, Q r → Q' r) (h : loSp β ds Q) : loSp β ds Q' := by
  obtain ⟨b, W, t, h1, h2, h3, h4, h5, q⟩ := h
  exact ⟨b, W, t, h1, h2, h3, h4, h5, fun ws h6 h7 => f _ (q ws h6 h7)⟩
theorem lo_ar (h : loSp β ds Q) : ds.length = 3 := by
  obtain ⟨_, _, _, _, rfl, _, _, _, _⟩ := h
  rfl
theorem bent_mono (n : Nat) (β : Option Bag) (ds : List D) (Q Q' : R → Prop) (f : ∀ r, Q r → Q' r) (h : bentSp n β ds Q) : bentSp n β ds Q' := by
  obtain ⟨b, k, w, m, d, h1, h2, h3, h4, h5, h6, h7, q⟩ := h
  exact ⟨b, k, w, m, d, h1, h2, h3, h4, h5, h6, h7, fun d' hd => ⟨f _ (q d' hd).1, f _ (q d' hd).2⟩⟩
theorem bent_ar {n : Nat} (h : bentSp n β ds Q) : ds.length = 2 := by
  obtain ⟨_, _, _, _, _, _, rfl, _⟩ := h
  rfl
end
end K62
namespace K62
open PySem PySem.Spec PyProof.Rows L2 DI K63
def tfn : Nat → DSp
  | 0 => itSp
  | 1 => onSp
  | 2 => firstSp
  | 3 => behSp
  | 4 => fitSp
  | 5 => bagSp
  | 6 => takeSp
  | 7 => alSp
  | 8 => oneSp
  | 9 => miSp
  | 10 => oddSp
  | 11 => (bentSp 60)
  | 12 => namSp
  | 13 => fiSp
  | 14 => itSp
  | 15 => drSp
  | 16 => loSp
  | _ => fun _ _ _ => False
def tab (W : Program × World) : Tb := ⟨W, tfn, gl62⟩
theorem take_mono (β : Option Bag) (ds : List D) (Q Q' : R → Prop) (f : ∀ r, Q r → Q' r) (h : takeSp β ds Q) : takeSp β ds Q' := by
  obtain ⟨b, n, h1, h2, h3, h4, h5⟩ := h
  exact ⟨b, n, h1, h2, h3, h4, fun r r0 r1 => f _ (h5 r r0 r1)⟩
theorem bag_mono (β : Option Bag) (ds : List D) (Q Q' : R → Prop) (f : ∀ r, Q r → Q' r) (h : bagSp β ds Q) : bagSp β ds Q' := by
  obtain ⟨a, ns, h1, h2⟩ := h
  exact ⟨a, ns, h1, fun ms hm => f _ (h2 ms hm)⟩
theorem tab_mono (W : Program × World) : (tab W).Mono := by
  intro k β ds Q Q' f h
  have h : tfn k β ds Q := h
  show tfn k β ds Q'
  match k, h with
  | 0, h => exact it_mono β ds Q Q' f h
  | 1, h => exact on_mono β ds Q Q' f h
  | 2, h => exact first_mono β ds Q Q' f h
  | 3, h => exact beh_mono β ds Q Q' f h
  | 4, h => exact fit_mono β ds Q Q' f h
  | 5, h => exact bag_mono β ds Q Q' f h
  | 6, h => exact take_mono β ds Q Q' f h
  | 7, h => exact al_mono β ds Q Q' f h
  | 8, h => exact one_mono β ds Q Q' f h
  | 9, h => exact mi_mono β ds Q Q' f h
  | 10, h => exact odd_mono β ds Q Q' f h
  | 11, h => exact (bent_mono 60) β ds Q Q' f h
  | 12, h => exact nam_mono β ds Q Q' f h
  | 13, h => exact fi_mono β ds Q Q' f h
  | 14, h => exact it_mono β ds Q Q' f h
  | 15, h => exact dr_mono β ds Q Q' f h
  | 16, h => exact lo_mono β ds Q Q' f h
  | k + 17, h => exact h.elim
section
variable {P : Program} {w : World} {K : PySem.W.Frag} {mg : Str → Option Value} {base : Heap}
theorem gls_ {h : Heap} (X : K.In h) (G : h.Ns mainGlobals mg) (c : He.SaysD Tx.fas Tx.fns K) : GlsOk (tab (P, w)) K mg 2 (fun k => Tx.glNames.getD k "") := by
  intro k hk
  match k, hk with
  | 0, _ =>
    obtain ⟨t, e⟩ := He.int_ok X G (c.facts (f := .int "MOST_ENTRIES" 10) (by unfold Tx.fas; simp))
    exact ⟨.int 10, _, e, ⟨t, rfl⟩, fun _ => .int _⟩
  | 1, _ =>
    obtain ⟨t, e⟩ := He.int_ok X G (c.facts (f := .int "MOST_STARS" 3) (by unfold Tx.fas; simp))
    exact ⟨.int 3, _, e, ⟨t, rfl⟩, fun _ => .int _⟩
  | k + 2, hk => exact absurd hk (by omega)
theorem chain_ {h : Heap} (X : K.In h) (G : h.Ns mainGlobals mg) (c : He.SaysD Tx.fas Tx.fns K) (tx : TxtOk mg base) : FnsOk (tab (P, w)) P w K mg base 77 17 (fun k => Tx.fnNames.getD k "") := by
  have hg := gls_ (P := P) (w := w) X G c
  have tm := tab_mono (P, w)
  refine chainL (N := 17) (fun k => k + (if 11 < k then 60 else 0)) (fun k => by (repeat' split) <;> omega) (fun k hk hf => ?_) 17 (Nat.le_refl _)
  match k, hk, hf with
  | 0, _, hf =>
    obtain ⟨fd, F⟩ := c.def_ 0 (d := Tx.dd_is_torn) rfl
    have hm : mg "is_torn" = some (.ref (He.ga K "is_torn")) := He.glo_ok X G (c.fact 0 (f := .glo "is_torn") rfl)
    exact fok_of (S := Tx.sc_is_torn) hm F (fun _ _ _ _ _ _ us hl => match us, hl with | [_, _], _ => rfl) Tx.fs_is_torn tm rfl tx rfl hf hg Tx.ck_is_torn (fun β ds Q h => it_ar (β := β) h) fun β ds Q h => it_ev rfl h
  | 1, _, hf =>
    obtain ⟨fd, F⟩ := c.def_ 1 (d := Tx.dd_on_from) rfl
    have hm : mg "on_from" = some (.ref (He.ga K "on_from")) := He.glo_ok X G (c.fact 1 (f := .glo "on_from") rfl)
    exact fok_of (S := Tx.sc_on_from) hm F (fun _ _ _ _ _ _ us hl => match us, hl with | [_, _], _ => rfl) Tx.fs_on_from tm rfl tx rfl hf hg Tx.ck_on_from (fun β ds Q h => on_ar (β := β) h) fun β ds Q h => on_ev h
  | 2, _, hf =>
    obtain ⟨fd, F⟩ := c.def_ 2 (d := Tx.dd_first_spots) rfl
    have hm : mg "first_spots" = some (.ref (He.ga K "first_spots")) := He.glo_ok X G (c.fact 2 (f := .glo "first_spots") rfl)
    exact fok_of (S := Tx.sc_first_spots) hm F (fun _ _ _ _ _ _ us hl => match us, hl with | [_], _ => rfl) Tx.fs_first_spots tm rfl tx rfl hf hg Tx.ck_first_spots (fun β ds Q h => first_ar (β := β) h) fun β ds Q h => first_ev rfl h
  | 3, _, hf =>
    obtain ⟨fd, F⟩ := c.def_ 3 (d := Tx.dd_behind_word) rfl
    have hm : mg "behind_word" = some (.ref (He.ga K "behind_word")) := He.glo_ok X G (c.fact 3 (f := .glo "behind_word") rfl)
    exact fok_of (S := Tx.sc_behind_word) hm F (fun _ _ _ _ _ _ us hl => match us, hl with | [_, _, _], _ => rfl) Tx.fs_behind_word tm rfl tx rfl hf hg Tx.ck_behind_word (fun β ds Q h => beh_ar (β := β) h) fun β ds Q h => beh_ev rfl h
  | 4, _, hf =>
    obtain ⟨fd, F⟩ := c.def_ 4 (d := Tx.dd_log_fits) rfl
    have hm : mg "log_fits" = some (.ref (He.ga K "log_fits")) := He.glo_ok X G (c.fact 4 (f := .glo "log_fits") rfl)
    exact fok_of (S := Tx.sc_log_fits) hm F (fun _ _ _ _ _ _ us hl => match us, hl with | [_, _, _], _ => rfl) Tx.fs_log_fits tm rfl tx rfl hf hg Tx.ck_log_fits (fun β ds Q h => fit_ar (β := β) h) fun β ds Q h => fit_ev rfl rfl h
  | 5, _, hf =>
    obtain ⟨fd, F⟩ := c.def_ 5 (d := Tx.dd_l_bag) rfl
    have hm : mg "_law_bag" = some (.ref (He.ga K "_law_bag")) := He.glo_ok X G (c.fact 5 (f := .glo "_law_bag") rfl)
    exact fok_bag (S := Tx.sc_l_bag) hm F (fun _ _ _ _ _ _ us hl => match us, hl with | [_], _ => rfl) Tx.fs_l_bag rfl tm rfl tx rfl hf hg (by decide +kernel)
  | 6, _, hf =>
    obtain ⟨fd, F⟩ := c.def_ 6 (d := Tx.dd_l_take) rfl
    have hm : mg "_law_take" = some (.ref (He.ga K "_law_take")) := He.glo_ok X G (c.fact 6 (f := .glo "_law_take") rfl)
    exact fok_take (S := Tx.sc_l_take) hm F (fun _ _ _ _ _ _ us hl => match us, hl with | [_, _], _ => rfl) Tx.fs_l_take rfl tm rfl tx rfl hf hg (by decide +kernel)
  | 7, _, hf =>
    obtain ⟨fd, F⟩ := c.def_ 7 (d := Tx.dd_l_alike) rfl
    have hm : mg "_law_alike" = some (.ref (He.ga K "_law_alike")) := He.glo_ok X G (c.fact 7 (f := .glo "_law_alike") rfl)
    exact fok_of (S := Tx.sc_l_alike) hm F (fun _ _ _ _ _ _ us hl => match us, hl with | [_, _], _ => rfl) Tx.fs_l_alike tm rfl tx rfl hf hg Tx.ck_l_alike (fun β ds Q h => al_ar (β := β) h) fun β ds Q h => al_ev h
  | 8, _, hf =>
    obtain ⟨fd, F⟩ := c.def_ 8 (d := Tx.dd_l_one) rfl
    have hm : mg "_law_one" = some (.ref (He.ga K "_law_one")) := He.glo_ok X G (c.fact 8 (f := .glo "_law_one") rfl)
    exact fok_of (S := Tx.sc_l_one) hm F (fun _ _ _ _ _ _ us hl => match us, hl with | [_, _], _ => rfl) Tx.fs_l_one tm rfl tx rfl hf hg Tx.ck_l_one (fun β ds Q h => one_ar (β := β) h) fun β ds Q h => one_ev rfl h
  | 9, _, hf =>
    obtain ⟨fd, F⟩ := c.def_ 9 (d := Tx.dd_l_mixed) rfl
    have hm : mg "_law_mixed" = some (.ref (He.ga K "_law_mixed")) := He.glo_ok X G (c.fact 9 (f := .glo "_law_mixed") rfl)
    exact fok_of (S := Tx.sc_l_mixed) hm F (fun _ _ _ _ _ _ us hl => match us, hl with | [_, _], _ => rfl) Tx.fs_l_mixed tm rfl tx rfl hf hg Tx.ck_l_mixed (fun β ds Q h => mi_ar (β := β) h) fun β ds Q h => mi_ev rfl h
  | 10, _, hf =>
    obtain ⟨fd, F⟩ := c.def_ 10 (d := Tx.dd_l_odd) rfl
    have hm : mg "_law_odd" = some (.ref (He.ga K "_law_odd")) := He.glo_ok X G (c.fact 10 (f := .glo "_law_odd") rfl)
    exact fok_of (S := Tx.sc_l_odd) hm F (fun _ _ _ _ _ _ us hl => match us, hl with | [_], _ => rfl) Tx.fs_l_odd tm rfl tx rfl hf hg Tx.ck_l_odd (fun β ds Q h => odd_ar (β := β) h) fun β ds Q h => odd_ev rfl rfl h
  | 11, _, hf =>
    obtain ⟨fd, F⟩ := c.def_ 11 (d := Tx.dd_l_bent) rfl
    have hm : mg "_law_bent" = some (.ref (He.ga K "_law_bent")) := He.glo_ok X G (c.fact 11 (f := .glo "_law_bent") rfl)
    exact (fok_rec (S := Tx.sc_l_bent) (sp := bentSp) (kb := 11) hm F (fun _ _ _ _ _ _ us hl => match us, hl with | [_, _], _ => rfl) Tx.fs_l_bent tm bent_mono rfl tx rfl rfl rfl hf hg Tx.ck_l_bent (fun n β ds Q h => bent_ar (n := n) (β := β) h) (fun β ds Q h => by obtain ⟨_, _, _, _, _, _, _, h, _⟩ := h; exact absurd h (Nat.not_lt_zero _)) (fun n β ds Q h => bent_ev rfl rfl rfl Tb.at_same h) 60).mono (by decide)
  | 12, _, hf =>
    obtain ⟨fd, F⟩ := c.def_ 12 (d := Tx.dd_l_names) rfl
    have hm : mg "_law_names" = some (.ref (He.ga K "_law_names")) := He.glo_ok X G (c.fact 12 (f := .glo "_law_names") rfl)
    exact fok_of (S := Tx.sc_l_names) hm F (fun _ _ _ _ _ _ us hl => match us, hl with | [_, _], _ => rfl) Tx.fs_l_names tm rfl tx rfl hf hg Tx.ck_l_names (fun β ds Q h => nam_ar (β := β) h) fun β ds Q h => nam_ev rfl h
  | 13, _, hf =>
    obtain ⟨fd, F⟩ := c.def_ 13 (d := Tx.dd_l_fits) rfl
    have hm : mg "_law_fits" = some (.ref (He.ga K "_law_fits")) := He.glo_ok X G (c.fact 13 (f := .glo "_law_fits") rfl)
    exact fok_of (S := Tx.sc_l_fits) hm F (fun _ _ _ _ _ _ us hl => match us, hl with | [_, _, _], _ => rfl) Tx.fs_l_fits tm rfl tx rfl hf hg Tx.ck_l_fits (fun β ds Q h => fi_ar (β := β) h) fun β ds Q h => fi_ev h
  | 14, _, hf =>
    obtain ⟨fd, F⟩ := c.def_ 14 (d := Tx.dd_l_is_torn) rfl
    have hm : mg "_law_is_torn" = some (.ref (He.ga K "_law_is_torn")) := He.glo_ok X G (c.fact 14 (f := .glo "_law_is_torn") rfl)
    exact fok_of (S := Tx.sc_l_is_torn) hm F (fun _ _ _ _ _ _ us hl => match us, hl with | [_, _], _ => rfl) Tx.fs_l_is_torn tm rfl tx rfl hf hg Tx.ck_l_is_torn (fun β ds Q h => it_ar (β := β) h) fun β ds Q h => lit_ev h
  | 15, _, hf =>
    obtain ⟨fd, F⟩ := c.def_ 15 (d := Tx.dd_l_drawn) rfl
    have hm : mg "_law_drawn" = some (.ref (He.ga K "_law_drawn")) := He.glo_ok X G (c.fact 15 (f := .glo "_law_drawn") rfl)
    exact fok_of (S := Tx.sc_l_drawn) hm F (fun _ _ _ _ _ _ us hl => match us, hl with | [_, _], _ => rfl) Tx.fs_l_drawn tm rfl tx rfl hf hg Tx.ck_l_drawn (fun β ds Q h => dr_ar (β := β) h) fun β ds Q h => dr_ev rfl rfl h
  | 16, _, hf =>
    obtain ⟨fd, F⟩ := c.def_ 16 (d := Tx.dd_l_log_of) rfl
    have hm : mg "_law_log_of" = some (.ref (He.ga K "_law_log_of")) := He.glo_ok X G (c.fact 16 (f := .glo "_law_log_of") rfl)
    exact fok_of (S := Tx.sc_l_log_of) hm F (fun _ _ _ _ _ _ us hl => match us, hl with | [_, _, _], _ => rfl) Tx.fs_l_log_of tm rfl tx rfl hf hg Tx.ck_l_log_of (fun β ds Q h => lo_ar (β := β) h) fun β ds Q h => lo_ev rfl rfl rfl h
  | k + 17, hk, _ => exact absurd hk (by omega)
theorem facts {h : Heap} {f : Addr} (X : K.In h) (G : h.Ns mainGlobals mg) (hfa : mg ("law" : Str) = some (.ref f)) (c : He.SaysD Tx.fas Tx.fns K) :
    ∃ fd : FuncData, (∀ (s : Shared) (v : Value), BindsTo s fd ⟨[v], []⟩ [("_law_script", v)]) ∧ ∀ base : Heap, K.In base → base.Ns mainGlobals mg → (∃ o, base.get? sysModules = some o) → FnG P w K mg base 78 f fd ["_law_script"] (lawSp K) := by
  obtain ⟨fd, F⟩ := c.def_ 17 (d := Tx.dd_law) rfl
  have e := hfa.symm.trans (He.glo_ok X G (c.fact 17 (f := .glo "law") rfl))
  cases e
  have b := FunD.bindsA (ps := ["_law_script"]) F fun _ _ _ _ _ _ us hl => match us, hl with | [_], _ => rfl
  refine ⟨fd, fun s v => b s [v] rfl, fun base _ _ hs => ?_⟩
  have tx : TxtOk mg base := ⟨fun x hx => He.free_ok X G (c.facts (f := .free x) (List.mem_append_right _ (List.mem_append_right _ (List.mem_map.mpr ⟨x, hx, rfl⟩)))), hs⟩
  have hf := chain_ (P := P) (w := w) (base := base) X G c tx
  obtain ⟨oc, od, dV, kV, doc, pm, an, cdv, ct, osl, rfl, lk, hcd, _, _⟩ := F.ex
  exact lawG (S := Tx.sc_law) (T := tab (P, w)) (kb := 5) (n := 13) lk hcd Tx.fs_law rfl (tab_mono (P, w)) rfl tx rfl hf (gls_ X G c) rfl (by decide +kernel) rfl Tx.ck_law (fun a ns b => law_ev ⟨rfl, rfl, rfl, rfl, rfl, rfl, rfl, rfl, rfl, rfl, rfl, rfl⟩ a ns b)
end
end K62
open PySem PySem.W PySem.Calls PyProof.Rows
set_option maxRecDepth 100000 in
set_option maxHeartbeats 0 in
theorem PySem.Challenge.cw_fourfaces_k62_torn_logs_judged_holds : PySem.Challenge.rw_fourfaces_k62_torn_logs_judged.Holds := by
  w_on; o_law
  refine HandSHeadRun.head_any (r := OpenLaw.row PySem.Challenge.rw_fourfaces_k62_torn_logs_judged) (q := view (OpenLaw.row PySem.Challenge.rw_fourfaces_k62_torn_logs_judged).prog [21]) (H := Tx.hk) (ob := Tx.ob) (M := 1720) (loose := Tx.loose) (d := HandSHeadRun.topDef (OpenLaw.row PySem.Challenge.rw_fourfaces_k62_torn_logs_judged).prog 21) (kwd := []) Tx.ob_eq
    (by kernel_rfl) (fun s => by kernel_rfl) Tx.run (by kernel_rfl) (by kernel_rfl) (by kernel_rfl) (by rfl) (by first | assumption | decide +kernel) (by decide +kernel) ⟨rfl, rfl, rfl, rfl, rfl, by decide +kernel⟩ ?hw ?hc
  case hw => w_witness2
  case hc =>
    refine DI.walkG (l := PySem.Challenge.rw_fourfaces_k62_torn_logs_judged) (n := 63) (k := 78) (x := "_law_script") rfl (by decide) (by kernel_rfl) ⟨rfl, by decide, by decide⟩ ?F
    intro w mg fa h K KX c G hmg0
    have hmg : mg ("law" : PySem.Str) = some (.ref fa) := by
      have e : (HandSHeadRun.topDef (OpenLaw.row PySem.Challenge.rw_fourfaces_k62_torn_logs_judged).prog 21).name = ("law" : PySem.Str) := by kernel_rfl
      rw [← e]
      exact hmg0
    obtain ⟨fd, hb, hF⟩ := K62.facts (P := (PySem.Challenge.rw_fourfaces_k62_torn_logs_judged).prog) (w := w) KX G hmg c
    exact ⟨fd, DI.lawSp K, hb, fun H a ns hl hS => ⟨a, ns, rfl, hS, fun _ => rfl⟩, hF⟩

