import PyProof.Rows.All
import Wide.All
import OpenK.AllK
import Wide.FinOn
import HandS.ForMost
import HandS.Walk
import HandS.Deep
import HandS.More
import HandS.Iter
import HandS.IsInst
import KE.KeyNested
import HandS.Lambda
import HandS.Text
import KE.SortData
import KE.KDictDisplayH
import HandS.NoneIn
import HandS.SetFor
import HandS.Strs
import HandS.WordsDict
import HandS.Dict
import KE.Datum
import HandS.TupAny
import HandS.Style
import KE.KDictWalk
import KE.KDictSum
import HandS.Zip
import KE.GoesMore
import HandS.Star
import HandS.ListItems
import HandS.DictComp
import KE.KStateDown
import Lean
import HandS.WordsExc
import HandS.Defaults
import HandS.Head0
import HandS.Head1
import HandS.Head2
import HandS.HeadEnd
import HandS.HeadHook1
import HandS.HeadHook2
import HandS.HeadHook4
import PyProof.ReprLen
import HandS.ExcField
import HandS.ExcInit
import KE.KExcSuper
import HandS.EndTab
import HandS.HeadWalk
import HandS.HeadHook3
import Wide.Once
import KE.KStrOpen
import PySem.Challenge.RW_fourfaces_k79_mends_judged
set_option Elab.async false
set_option linter.all false
set_option autoImplicit false
set_option maxRecDepth 100000
set_option maxHeartbeats 1000000
/-! DI0: data as trees, how a heap bears them, the state of a body. -/
namespace DI
open PySem PySem.Spec PyProof.Rows L2

inductive D where
  | non
  | bl (b : Bool)
  | int (i : Int)
  | str (s : Str)
  | lst (xs : List D)
  | tup (xs : List D)
  | dct (kvs : List (D × D))
  | opq (v : V)
  | scr (a : Addr) (ns : List Int)
  | dcn (W : Program × World) (kvs : List (NestedKey × D × D))
  | dci (a : Addr) (kvs : List (D × D))

/-- a dict whose keys are nested tuples -/
def DnO (W : Program × World) (a : Addr) (xs : List (NestedKey × Addr × Value)) : HO := .ext fun h =>
  ∃ o es ep, h.get? a = some o ∧ o.ExactDict ∧ o.data = .dict es ep ∧ es.toList = xs.map (entryOfKey (nestedKind W.1 W.2)) ∧ (xs.map (·.1)).Nodup ∧ xs.length ≤ sizeLine ∧ (a == sysModules) = false
mutual
/-- data as a key -/
def D.nk : D → Option NestedKey
  | .non => some .none
  | .bl b => some (.num (if b = true then 1 else 0))
  | .int i => some (.num i)
  | .str x => some (.text x)
  | .tup ds => (nkA ds).map .tup
  | _ => none
def nkA : List D → Option (List NestedKey)
  | [] => some []
  | d :: ds => match d.nk, nkA ds with
    | some k, some ks => some (k :: ks)
    | _, _ => none
end

def kD : Key → D
  | .inl i => .int i
  | .inr x => .str x

def D.flat : D → Bool
  | .non | .bl _ | .int _ | .str _ | .opq _ => true
  | _ => false

mutual
inductive Rp (K : PySem.W.Frag) (G : Hp) : V → D → Prop
  | non : Rp K G .non .non
  | bl (b : Bool) : Rp K G (.bl b) (.bl b)
  | int (i : Int) : Rp K G (.int i) (.int i)
  | str (x : Str) : Rp K G (.str x) (.str x)
  | lst {a : Addr} {vs : List V} {ds : List D} : G a = some (.lst vs) → RpA K G vs ds → Rp K G (.ref a) (.lst ds)
  | tup {a : Addr} {vs : List V} {ds : List D} : SqT K G a vs → RpA K G vs ds → Rp K G (.ref a) (.tup ds)
  | dct {a : Addr} {kvs : List (Key × V)} {ds : List (D × D)} : Rd G a (.dK kvs) → RpK K G kvs ds → Rp K G (.ref a) (.dct ds)
  | dci {a : Addr} {kvs : List (Key × V)} {ds : List (D × D)} : Rd G a (.dK kvs) → RpK K G kvs ds → Rp K G (.ref a) (.dci a ds)
  | opq (v : V) : Rp K G v (.opq v)
  | scr {a : Addr} {ns : List Int} : SqL K G a (ns.map V.int) → Rp K G (.ref a) (.scr a ns)
  | dcn {a : Addr} {W : Program × World} {xs : List (NestedKey × Addr × Value)} {ds : List (NestedKey × D × D)} : G a = some (DnO W a xs) → RpN K G xs ds → Rp K G (.ref a) (.dcn W ds)
inductive RpN (K : PySem.W.Frag) (G : Hp) : List (NestedKey × Addr × Value) → List (NestedKey × D × D) → Prop
  | nil : RpN K G [] []
  | cons {k : NestedKey} {b : Addr} {u : Value} {v : V} {dk d : D} {xs : List (NestedKey × Addr × Value)} {ds : List (NestedKey × D × D)} : Rp K G (.ref b) dk → dk.nk = some k → k.depth ≤ 8 → RelV v u → Rp K G v d → RpN K G xs ds → RpN K G ((k, b, u) :: xs) ((k, dk, d) :: ds)
inductive RpA (K : PySem.W.Frag) (G : Hp) : List V → List D → Prop
  | nil : RpA K G [] []
  | cons {v : V} {d : D} {vs : List V} {ds : List D} : Rp K G v d → RpA K G vs ds → RpA K G (v :: vs) (d :: ds)
inductive RpK (K : PySem.W.Frag) (G : Hp) : List (Key × V) → List (D × D) → Prop
  | nil : RpK K G [] []
  | cons {k : Key} {v : V} {d : D} {kvs : List (Key × V)} {ds : List (D × D)} : Rp K G v d → RpK K G kvs ds → RpK K G ((k, v) :: kvs) ((kD k, d) :: ds)
end

theorem same_sqT {K : PySem.W.Frag} {G G' : Hp} {a : Addr} {vs : List V} (e : Same G G') (h : SqT K G a vs) : SqT K G' a vs := by
  rcases h with (h | ⟨o, h⟩) | h
  · exact .inl (.inl (e _ _ h))
  · exact .inl (.inr ⟨o, e _ _ h⟩)
  · exact .inr h

theorem same_sqL {K : PySem.W.Frag} {G G' : Hp} {a : Addr} {vs : List V} (e : Same G G') (h : SqL K G a vs) : SqL K G' a vs := by
  rcases h with (h | ⟨o, h⟩) | h
  · exact .inl (.inl (e _ _ h))
  · exact .inl (.inr ⟨o, e _ _ h⟩)
  · exact .inr h
theorem same_rd {G G' : Hp} {a : Addr} {u : HO} (e : Same G G') (h : Rd G a u) : Rd G' a u := by
  rcases h with h | ⟨o, h⟩
  · exact .inl (e _ _ h)
  · exact .inr ⟨o, e _ _ h⟩
mutual
theorem Rp.mono {K : PySem.W.Frag} {G G' : Hp} (e : Same G G') : ∀ {v : V} {d : D}, Rp K G v d → Rp K G' v d
  | _, _, .non => .non
  | _, _, .bl b => .bl b
  | _, _, .int i => .int i
  | _, _, .str x => .str x
  | _, _, .lst h r => .lst (e _ _ h) (RpA.mono e r)
  | _, _, .tup h r => .tup (same_sqT e h) (RpA.mono e r)
  | _, _, .dct h r => .dct (same_rd e h) (RpK.mono e r)
  | _, _, .dci h r => .dci (same_rd e h) (RpK.mono e r)
  | _, _, .opq v => .opq v
  | _, _, .scr h => .scr (same_sqL e h)
  | _, _, .dcn h r => .dcn (e _ _ h) (RpN.mono e r)
theorem RpN.mono {K : PySem.W.Frag} {G G' : Hp} (e : Same G G') : ∀ {xs : List (NestedKey × Addr × Value)} {ds : List (NestedKey × D × D)}, RpN K G xs ds → RpN K G' xs ds
  | _, _, .nil => .nil
  | _, _, .cons h1 h2 h3 h4 h5 r => .cons (Rp.mono e h1) h2 h3 h4 (Rp.mono e h5) (RpN.mono e r)
theorem RpA.mono {K : PySem.W.Frag} {G G' : Hp} (e : Same G G') : ∀ {vs : List V} {ds : List D}, RpA K G vs ds → RpA K G' vs ds
  | _, _, .nil => .nil
  | _, _, .cons h r => .cons (Rp.mono e h) (RpA.mono e r)
theorem RpK.mono {K : PySem.W.Frag} {G G' : Hp} (e : Same G G') : ∀ {kvs : List (Key × V)} {ds : List (D × D)}, RpK K G kvs ds → RpK K G' kvs ds
  | _, _, .nil => .nil
  | _, _, .cons h r => .cons (Rp.mono e h) (RpK.mono e r)
end

/-- grown, or a dict locked or unlocked -/
def Wk (G G' : Hp) : Prop := ∀ a u, G a = some u → G' a = some u ∨ ∃ kvs, (u = .dK kvs ∨ ∃ o, u = .frz o (.dK kvs)) ∧ Rd G' a (.dK kvs)
theorem wk_lst {G G' : Hp} {a : Addr} {vs : List V} (w : Wk G G') (h : G a = some (.lst vs)) : G' a = some (.lst vs) := by
  rcases w a _ h with h | ⟨kvs, h | ⟨o, h⟩, _⟩
  · exact h
  · cases h
  · cases h
theorem wk_sqT {K : PySem.W.Frag} {G G' : Hp} {a : Addr} {vs : List V} (w : Wk G G') (h : SqT K G a vs) : SqT K G' a vs := by
  rcases h with (h | ⟨o, h⟩) | h
  · rcases w a _ h with h | ⟨kvs, h | ⟨o, h⟩, _⟩
    · exact .inl (.inl h)
    · cases h
    · cases h
  · rcases w a _ h with h | ⟨kvs, h | ⟨o, h⟩, _⟩
    · exact .inl (.inr ⟨o, h⟩)
    · cases h
    · cases h
  · exact .inr h
theorem wk_sqL {K : PySem.W.Frag} {G G' : Hp} {a : Addr} {vs : List V} (w : Wk G G') (h : SqL K G a vs) : SqL K G' a vs := by
  rcases h with (h | ⟨o, h⟩) | h
  · exact .inl (.inl (wk_lst w h))
  · rcases w a _ h with h | ⟨kvs, h | ⟨o, h⟩, _⟩
    · exact .inl (.inr ⟨o, h⟩)
    · cases h
    · cases h
  · exact .inr h
theorem wk_rd {G G' : Hp} {a : Addr} {kvs : List (Key × V)} (w : Wk G G') (h : Rd G a (.dK kvs)) : Rd G' a (.dK kvs) := by
  rcases h with h | ⟨o, h⟩
  · rcases w a _ h with h | ⟨kvs', h | ⟨o, h⟩, q⟩
    · exact .inl h
    · cases h; exact q
    · cases h
  · rcases w a _ h with h | ⟨kvs', h | ⟨o, h⟩, q⟩
    · exact .inr ⟨o, h⟩
    · cases h
    · cases h; exact q
theorem wk_dn {G G' : Hp} {a : Addr} {W : Program × World} {xs : List (NestedKey × Addr × Value)} (w : Wk G G') (h : G a = some (DnO W a xs)) : G' a = some (DnO W a xs) := by
  rcases w a _ h with h | ⟨kvs, h | ⟨o, h⟩, _⟩
  · exact h
  · cases h
  · cases h
mutual
theorem Rp.wk {K : PySem.W.Frag} {G G' : Hp} (w : Wk G G') : ∀ {v : V} {d : D}, Rp K G v d → Rp K G' v d
  | _, _, .non => .non
  | _, _, .bl b => .bl b
  | _, _, .int i => .int i
  | _, _, .str x => .str x
  | _, _, .lst h r => .lst (wk_lst w h) (RpA.wk w r)
  | _, _, .tup h r => .tup (wk_sqT w h) (RpA.wk w r)
  | _, _, .dct h r => .dct (wk_rd w h) (RpK.wk w r)
  | _, _, .dci h r => .dci (wk_rd w h) (RpK.wk w r)
  | _, _, .opq v => .opq v
  | _, _, .scr h => .scr (wk_sqL w h)
  | _, _, .dcn h r => .dcn (wk_dn w h) (RpN.wk w r)
theorem RpN.wk {K : PySem.W.Frag} {G G' : Hp} (w : Wk G G') : ∀ {xs : List (NestedKey × Addr × Value)} {ds : List (NestedKey × D × D)}, RpN K G xs ds → RpN K G' xs ds
  | _, _, .nil => .nil
  | _, _, .cons h1 h2 h3 h4 h5 r => .cons (Rp.wk w h1) h2 h3 h4 (Rp.wk w h5) (RpN.wk w r)
theorem RpA.wk {K : PySem.W.Frag} {G G' : Hp} (w : Wk G G') : ∀ {vs : List V} {ds : List D}, RpA K G vs ds → RpA K G' vs ds
  | _, _, .nil => .nil
  | _, _, .cons h r => .cons (Rp.wk w h) (RpA.wk w r)
theorem RpK.wk {K : PySem.W.Frag} {G G' : Hp} (w : Wk G G') : ∀ {kvs : List (Key × V)} {ds : List (D × D)}, RpK K G kvs ds → RpK K G' kvs ds
  | _, _, .nil => .nil
  | _, _, .cons h r => .cons (Rp.wk w h) (RpK.wk w r)
end

theorem Rp.flat {K : PySem.W.Frag} {G G' : Hp} {v : V} {d : D} (h : Rp K G v d) (f : d.flat = true) : Rp K G' v d := by
  cases h with
  | non => exact .non
  | bl b => exact .bl b
  | int i => exact .int i
  | str x => exact .str x
  | lst _ _ => cases f
  | tup _ _ => cases f
  | dct _ _ => cases f
  | dci _ _ => cases f
  | opq v => exact .opq v
  | scr _ => cases f
  | dcn _ _ => cases f

section
variable {K : PySem.W.Frag} {G : Hp}
theorem RpA.length {vs : List V} {ds : List D} (h : RpA K G vs ds) : vs.length = ds.length := by
  induction vs generalizing ds with
  | nil => cases h; rfl
  | cons v vs ih => cases h with | cons a b => simp [ih b]
theorem RpA.get {vs : List V} {ds : List D} {i : Nat} {d : D} (h : RpA K G vs ds) (e : ds[i]? = some d) : ∃ v, vs[i]? = some v ∧ Rp K G v d := by
  induction i generalizing vs ds with
  | zero =>
    cases h with
    | nil => cases e
    | cons a b => cases e; exact ⟨_, rfl, a⟩
  | succ i ih =>
    cases h with
    | nil => cases e
    | cons a b => obtain ⟨v, h1, h2⟩ := ih b (by simpa using e); exact ⟨v, by simpa using h1, h2⟩
theorem RpA.get' {vs : List V} {ds : List D} {i : Nat} {v : V} (h : RpA K G vs ds) (e : vs[i]? = some v) : ∃ d, ds[i]? = some d ∧ Rp K G v d := by
  induction i generalizing vs ds with
  | zero =>
    cases h with
    | nil => cases e
    | cons a b => cases e; exact ⟨_, rfl, a⟩
  | succ i ih =>
    cases h with
    | nil => cases e
    | cons a b => obtain ⟨v, h1, h2⟩ := ih b (by simpa using e); exact ⟨v, by simpa using h1, h2⟩
theorem RpA.append {vs ws : List V} {ds es : List D} (h : RpA K G vs ds) (h' : RpA K G ws es) : RpA K G (vs ++ ws) (ds ++ es) := by
  induction vs generalizing ds with
  | nil => cases h; exact h'
  | cons v vs ih => cases h with | cons a b => exact .cons a (ih b)
theorem RpA.take {vs : List V} {ds : List D} (n : Nat) (h : RpA K G vs ds) : RpA K G (vs.take n) (ds.take n) := by
  induction n generalizing vs ds with
  | zero => exact .nil
  | succ n ih => cases h with
    | nil => exact .nil
    | cons a b => exact .cons a (ih b)
theorem RpA.drop {vs : List V} {ds : List D} (n : Nat) (h : RpA K G vs ds) : RpA K G (vs.drop n) (ds.drop n) := by
  induction n generalizing vs ds with
  | zero => exact h
  | succ n ih => cases h with
    | nil => exact .nil
    | cons a b => exact ih b
theorem RpA.set {vs : List V} {ds : List D} {v : V} {d : D} (n : Nat) (h : RpA K G vs ds) (hv : Rp K G v d) : RpA K G (vs.set n v) (ds.set n d) := by
  induction n generalizing vs ds with
  | zero => cases h with
    | nil => exact .nil
    | cons a b => exact .cons hv b
  | succ n ih => cases h with
    | nil => exact .nil
    | cons a b => exact .cons a (ih b)
theorem RpA.eraseIdx {vs : List V} {ds : List D} (n : Nat) (h : RpA K G vs ds) : RpA K G (vs.eraseIdx n) (ds.eraseIdx n) := by
  induction n generalizing vs ds with
  | zero => cases h with
    | nil => exact .nil
    | cons a b => exact b
  | succ n ih => cases h with
    | nil => exact .nil
    | cons a b => exact .cons a (ih b)
theorem RpA.dropLast {vs : List V} {ds : List D} (h : RpA K G vs ds) : RpA K G vs.dropLast ds.dropLast := by
  rw [List.dropLast_eq_take, List.dropLast_eq_take, h.length]
  exact h.take _
theorem RpA.ints : ∀ (ns : List Int), RpA K G (ns.map V.int) (ns.map D.int)
  | [] => .nil
  | n :: ns => .cons (.int n) (RpA.ints ns)
theorem RpA.strs : ∀ (ns : List Str), RpA K G (ns.map V.str) (ns.map D.str)
  | [] => .nil
  | n :: ns => .cons (.str n) (RpA.strs ns)
theorem RpA.int_of {vs : List V} {ns : List Int} (h : RpA K G vs (ns.map D.int)) : vs = ns.map V.int := by
  induction ns generalizing vs with
  | nil => cases h; rfl
  | cons n ns ih =>
    cases h with
    | cons a b => cases a; rw [ih b]; rfl
theorem RpA.str_of {vs : List V} {ns : List Str} (h : RpA K G vs (ns.map D.str)) : vs = ns.map V.str := by
  induction ns generalizing vs with
  | nil => cases h; rfl
  | cons n ns ih =>
    cases h with
    | cons a b => cases a; rw [ih b]; rfl
end

/-! ### the state of a body -/
/-- what a slot holds: nothing that is known; a value that is not changed any more; a list or dict of this body's own -/
inductive M where
  | un
  | fz (d : D)
  | ow (d : D)
/-- what an expression gives: a value that is not changed any more; a new list or dict; the own list or dict in a slot -/
inductive R where
  | fz (d : D)
  | ow (d : D)
  | al (i : Nat)

/-- the bag of a law: where it stands, where its cells stand; the tables of code objects -/
abbrev Bag := Addr × Addr × List (Addr × Str)
/-- the tables of code objects are these, and no table is data -/
structure TbOk (G H : Hp) (T : List (Addr × Str)) : Prop where
  t : LamX.Tabs T H
  g : ∀ a ps, G a ≠ some (.tbl ps)
def BagOk (K : PySem.W.Frag) (G H : Hp) (b : Bag) : Prop := TbOk G H b.2.2 ∧ G b.1 = none ∧ ∃ (x m c : Int) (ns : List Int),
  H b.1 = some (.lst [.int x, .int m, .int c, .ref b.2.1]) ∧ G b.2.1 = some (.lst (ns.map V.int)) ∧ 0 ≤ x ∧ 0 ≤ m ∧ m < 2147483647 ∧ 0 ≤ c ∧ ∀ n ∈ ns, 0 ≤ n
/-- a is not the bag -/
def nbag (β : Option Bag) (a : Addr) : Prop := ∀ b, β = some b → b.1 ≠ a
/-- a is no table -/
def ntb (β : Option Bag) (H : Hp) (a : Addr) : Prop := ∀ b, β = some b → ∀ ps, H a ≠ some (.tbl ps)
theorem TbOk.sub {G H G' H' : Hp} {T : List (Addr × Str)} (h : TbOk G H T) (hg : ∀ a ps, G' a = some (.tbl ps) → G a = some (.tbl ps)) (hh : ∀ a ps, H a = some (.tbl ps) → H' a = some (.tbl ps)) (hc : ∀ c q, H c = some (LamX.CodeO c q) → H' c = some (LamX.CodeO c q)) : TbOk G' H' T := by
  refine ⟨fun p m => ?_, fun a ps e => h.g a ps (hg a ps e)⟩
  obtain ⟨ps, e1, e2, e3⟩ := h.t p m
  refine ⟨ps, hh _ _ e1, e2, fun pos cv hp => ?_⟩
  obtain ⟨c, q1, q2⟩ := e3 pos cv hp
  exact ⟨c, q1, hc _ _ q2⟩
theorem tbl_ne_dK {ps : Array Value} (kvs : List (Key × V)) : HO.tbl ps ≠ .dK kvs ∧ ∀ o, HO.tbl ps ≠ .frz o (.dK kvs) := ⟨fun z => (by cases z), fun o z => (by cases z)⟩
theorem code_ne_dK {a : Addr} {q : Str} (kvs : List (Key × V)) : LamX.CodeO a q ≠ .dK kvs ∧ ∀ o, LamX.CodeO a q ≠ .frz o (.dK kvs) := ⟨fun z => (by unfold LamX.CodeO at z; cases z), fun o z => (by unfold LamX.CodeO at z; cases z)⟩
theorem code_ne_dn {W : Program × World} {a : Addr} {q : Str} {xs : List (NestedKey × Addr × Value)} : DnO W a xs ≠ LamX.CodeO a q := fun z => by
  unfold DnO LamX.CodeO at z
  injection z with z
  let o : Obj := { cls := .none, dict := none, data := .fields #[.none, .str q default] }
  let h : Heap := ⟨Array.replicate (a + 1) o, {}⟩
  have hg : h.get? a = some o := by simp [Heap.get?, h, o]
  have q2 := congrFun z h
  have q3 : ∃ (oc : Obj) (vs : Array Value) (t : Tok), h.get? a = some oc ∧ oc.data = .fields vs ∧ vs[1]? = some (.str q t) := ⟨o, _, default, hg, rfl, by simp⟩
  rw [← q2] at q3
  obtain ⟨o', es, ep, h1, _, h2, _⟩ := q3
  rw [hg] at h1
  cases h1
  cases h2

def Con (K : PySem.W.Frag) (G H : Hp) (a : Addr) : D → Prop
  | .lst ds => ∃ vs, H a = some (.lst vs) ∧ RpA K G vs ds
  | .dct ds => ∃ kvs, H a = some (.dK kvs) ∧ RpK K G kvs ds
  | .dcn W ds => ∃ xs, H a = some (DnO W a xs) ∧ RpN K G xs ds
  | _ => False

/-- the frame: objects at P stand as in H0 and are in nobody's data -/
structure Fr where
  K : PySem.W.Frag
  P : Addr → Prop
  H0 : Hp

structure Sta where
  sl : List M
  bag : Option Bag

structure Rl (F : Fr) (G H : Hp) (σ : L2.St) (ρ : Sta) : Prop where
  sub : Same G H
  fr : ∀ a, F.P a → G a = none ∧ H a = F.H0 a ∧ H a ≠ none ∧ nbag ρ.bag a ∧ ntb ρ.bag H a
  len : σ.length = ρ.sl.length
  fz : ∀ (i : Nat) (d : D), ρ.sl[i]? = some (.fz d) → ∃ v, σ[i]? = some (some v) ∧ Rp F.K G v d
  ow : ∀ (i : Nat) (d : D), ρ.sl[i]? = some (.ow d) → ∃ a, σ[i]? = some (some (.ref a)) ∧ ¬ F.P a ∧ G a = none ∧ Con F.K G H a d
  ap : ∀ (i j : Nat) (d e : D) (a : Addr), ρ.sl[i]? = some (.ow d) → ρ.sl[j]? = some (.ow e) → σ[i]? = some (some (.ref a)) → σ[j]? = some (some (.ref a)) → i = j
  bg : ∀ (b : Bag), ρ.bag = some b → BagOk F.K G H b
  bo : ∀ (b : Bag) (i : Nat) (d : D), ρ.bag = some b → ρ.sl[i]? = some (.ow d) → σ[i]? ≠ some (some (.ref b.1))

/-- a new own object -/
structure Nw (F : Fr) (G H : Hp) (σ : L2.St) (ρ : Sta) (a : Addr) (d : D) : Prop where
  np : ¬ F.P a
  gn : G a = none
  con : Con F.K G H a d
  sl : ∀ (i : Nat) (d : D), ρ.sl[i]? = some (.ow d) → σ[i]? ≠ some (some (.ref a))
  bg : nbag ρ.bag a
/-- how a result stands in the heap -/
def RR (F : Fr) (G H : Hp) (σ : L2.St) (ρ : Sta) (v : V) : R → Prop
  | .fz d => Rp F.K G v d
  | .al i => (∃ d, ρ.sl[i]? = some (.ow d)) ∧ σ[i]? = some (some v)
  | .ow d => ∃ a, v = .ref a ∧ Nw F G H σ ρ a d

section
variable {F : Fr} {G H : Hp} {σ : L2.St} {ρ : Sta}
theorem same_new {H : Hp} {p : Addr} {o : HO} (h : H p = none) : Same H (upd H p o) := fun b x e => by
  rw [upd_ne (ne_of_none e h)]
  exact e
theorem Rl.gnone (r : Rl F G H σ ρ) {p : Addr} (h : H p = none) : G p = none := r.sub.free h
theorem Rl.pnone (r : Rl F G H σ ρ) {p : Addr} (h : H p = none) : ¬ F.P p := fun q => (r.fr p q).2.2.1 h
theorem Con.sub {K : PySem.W.Frag} {G' H' : Hp} {a : Addr} {d : D} (h : Con K G H a d) (hg : Same G G') (hh : H' a = H a) : Con K G' H' a d := by
  cases d with
  | lst ds => obtain ⟨vs, h1, h2⟩ := h; exact ⟨vs, hh.trans h1, h2.mono hg⟩
  | dct ds => obtain ⟨vs, h1, h2⟩ := h; exact ⟨vs, hh.trans h1, h2.mono hg⟩
  | dcn W ds => obtain ⟨vs, h1, h2⟩ := h; exact ⟨vs, hh.trans h1, h2.mono hg⟩
  | _ => exact h.elim
theorem Con.some {K : PySem.W.Frag} {a : Addr} {d : D} (h : Con K G H a d) : H a ≠ none := by
  cases d with
  | lst ds => obtain ⟨vs, h1, h2⟩ := h; rw [h1]; exact nofun
  | dct ds => obtain ⟨vs, h1, h2⟩ := h; rw [h1]; exact nofun
  | dcn W ds => obtain ⟨vs, h1, h2⟩ := h; rw [h1]; exact nofun
  | _ => exact h.elim
theorem Con.notbl {K : PySem.W.Frag} {a : Addr} {d : D} (h : Con K G H a d) (ps : Array Value) : H a ≠ .some (.tbl ps) := by
  cases d with
  | lst ds => obtain ⟨vs, h1, h2⟩ := h; rw [h1]; exact nofun
  | dct ds => obtain ⟨vs, h1, h2⟩ := h; rw [h1]; exact nofun
  | dcn W ds => obtain ⟨vs, h1, h2⟩ := h; rw [h1]; exact nofun
  | _ => exact h.elim
theorem Con.nocode {K : PySem.W.Frag} {a : Addr} {d : D} (h : Con K G H a d) (q : Str) : H a ≠ .some (LamX.CodeO a q) := by
  cases d with
  | lst ds => obtain ⟨vs, h1, h2⟩ := h; rw [h1]; exact nofun
  | dct ds => obtain ⟨vs, h1, h2⟩ := h; rw [h1]; exact nofun
  | dcn W ds => obtain ⟨vs, h1, h2⟩ := h; rw [h1]; exact fun z => code_ne_dn (Option.some.inj z)
  | _ => exact h.elim
/-- what the bag and the tables are, stays -/
theorem BagOk.sub {K : PySem.W.Frag} {G' H' : Hp} {b : Bag} (h : BagOk K G H b) (hg : Same G G') (hn : G' b.1 = none) (hh : H' b.1 = H b.1) (ht : ∀ a ps, G' a = .some (.tbl ps) → G a = .some (.tbl ps)) (hh2 : ∀ a ps, H a = .some (.tbl ps) → H' a = .some (.tbl ps))
    (hc : ∀ c q, H c = .some (LamX.CodeO c q) → H' c = .some (LamX.CodeO c q)) : BagOk K G' H' b := by
  obtain ⟨ht0, hn0, x, m, c, ns, h1, h2, h3⟩ := h
  exact ⟨ht0.sub ht hh2 hc, hn, x, m, c, ns, hh.trans h1, hg _ _ h2, h3⟩
theorem BagOk.some {K : PySem.W.Frag} {a : Bag} (h : BagOk K G H a) : H a.1 ≠ none := by
  obtain ⟨_, _, x, m, c, ns, h1, h2, h3⟩ := h
  rw [h1]
  exact nofun

/-- the heap has grown: G' over G, H' over H, nothing that stood is taken into G' -/
structure Gw (G H G' H' : Hp) : Prop where
  g : Same G G'
  h : Same H H'
  s : Same G' H'
  n : ∀ a, H a ≠ none → G a = none → G' a = none
  t : ∀ a ps, G' a = some (.tbl ps) → G a = some (.tbl ps)
theorem Gw.at {G' H' : Hp} (w : Gw G H G' H') {a : Addr} (h : H a ≠ none) : H' a = H a := by
  cases e : H a with
  | none => exact absurd e h
  | some o => exact w.h _ _ e
theorem Gw.nw {G' H' : Hp} (w : Gw G H G' H') {a : Addr} {d : D} (h : Nw F G H σ ρ a d) : Nw F G' H' σ ρ a d :=
  ⟨h.np, w.n a h.con.some h.gn, h.con.sub w.g (w.at h.con.some), h.sl, h.bg⟩
theorem Rl.grow {G' H' : Hp} (r : Rl F G H σ ρ) (w : Gw G H G' H') : Rl F G' H' σ ρ := by
  refine ⟨w.s, fun a h => ?_, r.len, fun i d e => ?_, fun i d e => ?_, r.ap, fun b e => ?_, r.bo⟩
  · obtain ⟨q1, q2, q3, q4, q5⟩ := r.fr a h
    refine ⟨w.n a q3 q1, (w.at q3).trans q2, ?_, q4, fun b hb ps => ?_⟩
    · rw [w.at q3]
      exact q3
    · rw [w.at q3]
      exact q5 b hb ps
  · obtain ⟨v, h1, h2⟩ := r.fz i d e
    exact ⟨v, h1, h2.mono w.g⟩
  · obtain ⟨a, h1, h2, h3, h4⟩ := r.ow i d e
    exact ⟨a, h1, h2, w.n a h4.some h3, h4.sub w.g (w.at h4.some)⟩
  · have q := r.bg b e
    exact q.sub w.g (w.n b.1 q.some q.2.1) (w.at q.some) w.t (fun a ps h => w.h _ _ h) fun c q h => w.h _ _ h
theorem RR.grow {G' H' : Hp} {v : V} {x : R} (q : RR F G H σ ρ v x) (w : Gw G H G' H') : RR F G' H' σ ρ v x := by
  cases x with
  | fz d => exact Rp.mono w.g q
  | al i => exact q
  | ow d => obtain ⟨a, e, n⟩ := q; exact ⟨a, e, w.nw n⟩
theorem tbl_new {H : Hp} {p : Addr} {o : HO} (ht : ∀ ps, o ≠ .tbl ps) : ∀ a ps, upd H p o a = .some (.tbl ps) → H a = .some (.tbl ps) := fun a ps e => by
  by_cases q : a = p
  · subst q; rw [upd_same] at e; exact absurd (Option.some.inj e) (ht ps)
  · rwa [upd_ne q] at e
theorem Gw.new (hs : Same G H) {p : Addr} {o : HO} (h : H p = none) (ht : ∀ ps, o ≠ .tbl ps := by intro ps z; cases z) : Gw G H G (upd H p o) :=
  ⟨Same.refl G, same_new h, hs.trans (same_new h), fun _ _ q => q, fun _ _ q => q⟩
theorem Gw.newF (hs : Same G H) {p : Addr} {o : HO} (h : H p = none) (ht : ∀ ps, o ≠ .tbl ps := by intro ps z; cases z) : Gw G H (upd G p o) (upd H p o) := by
  refine ⟨same_new (hs.free h), same_new h, fun a x e => ?_, fun a q1 q2 => ?_, tbl_new ht⟩
  · by_cases q : a = p
    · subst q; rw [upd_same] at e ⊢; exact e
    · rw [upd_ne q] at e ⊢; exact hs _ _ e
  · have : a ≠ p := fun e => q1 (by rw [e]; exact h)
    rw [upd_ne this]; exact q2
theorem Gw.refl (hs : Same G H) : Gw G H G H := ⟨Same.refl G, Same.refl H, hs, fun _ _ q => q, fun _ _ q => q⟩
theorem Gw.trans {G1 H1 G2 H2 : Hp} (a : Gw G H G1 H1) (b : Gw G1 H1 G2 H2) : Gw G H G2 H2 :=
  ⟨a.g.trans b.g, a.h.trans b.h, b.s, fun x h n => b.n x (by rw [a.at h]; exact h) (a.n x h n), fun x ps h => a.t x ps (b.t x ps h)⟩
/-- a new object at p -/
theorem Rl.nw {p : Addr} {o : HO} {d : D} (r : Rl F G H σ ρ) (h : H p = none) (c : Con F.K G (upd H p o) p d) : Nw F G (upd H p o) σ ρ p d := by
  refine ⟨r.pnone h, r.gnone h, c, fun i e hi hs => ?_, fun b e => ?_⟩
  · obtain ⟨a, h1, _, _, h4⟩ := r.ow i e hi
    rw [h1] at hs
    cases hs
    exact h4.some h
  · intro z
    have q := (r.bg _ e).some
    rw [z] at q
    exact q h
/-- an own thing is not changed any more -/
theorem frozen {K : PySem.W.Frag} {a : Addr} {d : D} (hs : Same G H) (gn : G a = none) (c : Con K G H a d) : ∃ o, H a = some o ∧ Same G (upd G a o) ∧ Same (upd G a o) H ∧ Rp K (upd G a o) (.ref a) d := by
  have key : ∀ o, H a = some o → Same G (upd G a o) ∧ Same (upd G a o) H := fun o e => ⟨same_new gn, fun b x q => by
    by_cases hb : b = a
    · subst hb; rw [upd_same] at q; rw [e]; exact q
    · rw [upd_ne hb] at q; exact hs _ _ q⟩
  cases d with
  | lst ds =>
    obtain ⟨vs, h1, h2⟩ := c
    exact ⟨_, h1, (key _ h1).1, (key _ h1).2, .lst upd_same (h2.mono (key _ h1).1)⟩
  | dct ds =>
    obtain ⟨vs, h1, h2⟩ := c
    exact ⟨_, h1, (key _ h1).1, (key _ h1).2, .dct (.inl upd_same) (h2.mono (key _ h1).1)⟩
  | dcn W ds =>
    obtain ⟨vs, h1, h2⟩ := c
    exact ⟨_, h1, (key _ h1).1, (key _ h1).2, .dcn upd_same (h2.mono (key _ h1).1)⟩
  | _ => exact c.elim
/-- a new thing is not changed any more -/
theorem Rl.keepN {a : Addr} {d : D} (r : Rl F G H σ ρ) (n : Nw F G H σ ρ a d) : ∃ G', Same G G' ∧ Rl F G' H σ ρ ∧ Rp F.K G' (.ref a) d := by
  obtain ⟨o, ho, h1, h2, h3⟩ := frozen r.sub n.gn n.con
  refine ⟨upd G a o, h1, ?_, h3⟩
  have ne : ∀ b, b ≠ a → upd G a o b = G b := fun b h => upd_ne h
  refine ⟨h2, fun b h => ?_, r.len, fun i e q => ?_, fun i e q => ?_, r.ap, fun b e => ?_, r.bo⟩
  · have hb : b ≠ a := fun e => n.np (e ▸ h)
    obtain ⟨q1, q2, q3, q4, q5⟩ := r.fr b h
    exact ⟨(ne b hb).trans q1, q2, q3, q4, q5⟩
  · obtain ⟨v, q1, q2⟩ := r.fz i e q
    exact ⟨v, q1, q2.mono h1⟩
  · obtain ⟨b, q1, q2, q3, q4⟩ := r.ow i e q
    have hb : b ≠ a := fun z => n.sl i e q (z ▸ q1)
    exact ⟨b, q1, q2, (ne b hb).trans q3, q4.sub h1 rfl⟩
  · have q := r.bg b e
    refine q.sub h1 ((ne b.1 (n.bg b e)).trans q.2.1) rfl (fun x ps h => ?_) (fun _ _ h => h) fun _ _ h => h
    by_cases z : x = a
    · subst z; rw [upd_same] at h; cases h; exact absurd ho (n.con.notbl ps)
    · rwa [ne x z] at h
theorem Con.wk {K : PySem.W.Frag} {G' H' : Hp} {a : Addr} {d : D} (h : Con K G H a d) (w : Wk G G') (hh : H' a = H a) : Con K G' H' a d := by
  cases d with
  | lst ds => obtain ⟨vs, h1, h2⟩ := h; exact ⟨vs, hh.trans h1, h2.wk w⟩
  | dct ds => obtain ⟨vs, h1, h2⟩ := h; exact ⟨vs, hh.trans h1, h2.wk w⟩
  | dcn W ds => obtain ⟨vs, h1, h2⟩ := h; exact ⟨vs, hh.trans h1, h2.wk w⟩
  | _ => exact h.elim
theorem Nw.wk {G' H' : Hp} {a : Addr} {d : D} (n : Nw F G H σ ρ a d) (w : Wk G G') (hn : G' a = none) (hh : H' a = H a) : Nw F G' H' σ ρ a d := ⟨n.np, hn, n.con.wk w hh, n.sl, n.bg⟩
theorem Rl.wk {G' H' : Hp} (r : Rl F G H σ ρ) (w : Wk G G') (s : Same G' H') (hn : ∀ a, G a = none → G' a = none ∧ H' a = H a) : Rl F G' H' σ ρ := by
  have tb : ∀ a ps, G' a = .some (.tbl ps) → G a = .some (.tbl ps) := fun a ps e => by
    cases g : G a with
    | none => rw [(hn a g).1] at e; cases e
    | some u' =>
      rcases w a u' g with p | ⟨kvs, _, p⟩
      · rw [p] at e; exact e
      · rcases p with p | ⟨o, p⟩ <;> (rw [p] at e; cases e)
  have ext : ∀ a u, H a = .some u → (∀ kvs, u ≠ .dK kvs ∧ ∀ o, u ≠ .frz o (.dK kvs)) → H' a = .some u := fun a u e q => by
    cases g : G a with
    | none => rw [(hn a g).2, e]
    | some u' =>
      have e2 := r.sub _ _ g
      rw [e] at e2
      cases e2
      rcases w a u g with p | ⟨kvs, p | ⟨o, p⟩, _⟩
      · exact s _ _ p
      · exact absurd p (q kvs).1
      · exact absurd p ((q kvs).2 o)
  refine ⟨s, fun a h => ?_, r.len, fun i d e => ?_, fun i d e => ?_, r.ap, fun b e => ?_, r.bo⟩
  · obtain ⟨q1, q2, q3, q4, q5⟩ := r.fr a h
    obtain ⟨p1, p2⟩ := hn a q1
    exact ⟨p1, p2.trans q2, by rw [p2]; exact q3, q4, fun b hb ps => by rw [p2]; exact q5 b hb ps⟩
  · obtain ⟨v, h1, h2⟩ := r.fz i d e
    exact ⟨v, h1, h2.wk w⟩
  · obtain ⟨a, h1, h2, h3, h4⟩ := r.ow i d e
    obtain ⟨p1, p2⟩ := hn a h3
    exact ⟨a, h1, h2, p1, h4.wk w p2⟩
  · obtain ⟨qt, q0, x, m, c, ns, h1, h2, h3⟩ := r.bg b e
    obtain ⟨p1, p2⟩ := hn b.1 q0
    exact ⟨qt.sub tb (fun a ps h => ext _ _ h tbl_ne_dK) (fun c q h => ext _ _ h code_ne_dK), p1, x, m, c, ns, p2.trans h1, wk_lst w h2, h3⟩
end
end DI

set_option Elab.async false
set_option linter.all false
set_option autoImplicit false
set_option maxRecDepth 100000
set_option maxHeartbeats 1000000
/-! DI1: the small language of bodies over data, and what it asks (weakest preconditions over trees). -/
namespace DI
open PySem PySem.Spec PyProof.Rows L2

/-! ### data as PyData -/
mutual
def D.py : D → PyData
  | .non => .none
  | .bl b => .bool b
  | .int i => .int i
  | .str x => .str x
  | .lst xs => .list (pyA xs)
  | .tup xs => .tuple (pyA xs)
  | .dct kvs => .dict (pyK kvs)
  | .opq _ => .none
  | .scr _ _ => .none
  | .dcn _ _ => .none
  | .dci _ kvs => .dict (pyK kvs)
def pyA : List D → List PyData
  | [] => []
  | x :: xs => x.py :: pyA xs
def pyK : List (D × D) → List (PyData × PyData)
  | [] => []
  | (k, v) :: r => (k.py, v.py) :: pyK r
end
mutual
/-- no opaque part -/
def D.ok : D → Bool
  | .lst xs => okA xs
  | .tup xs => okA xs
  | .dct kvs => okK kvs
  | .dci _ kvs => okK kvs
  | .opq _ => false
  | .scr _ _ => false
  | .dcn _ _ => false
  | _ => true
def okA : List D → Bool
  | [] => true
  | x :: xs => x.ok && okA xs
def okK : List (D × D) → Bool
  | [] => true
  | (k, v) :: r => k.ok && v.ok && okK r
end
/-- what may be compared -/
def D.cmp (d : D) : Bool := d.ok && SeqAt.shaped d.py
/-- what may be shown -/
def D.shw (d : D) : Bool := d.ok && d.py.showable && decide (d.py.depth ≤ 64) && decide (d.py.shown.length ≤ sizeLine)

def D.truth : D → Option Bool
  | .non => some false
  | .bl b => some b
  | .int i => some (i != 0)
  | .str x => if x.length ≤ sizeLine then some ((x.length : Int) != 0) else none
  | .lst xs => some (!xs.isEmpty)
  | .tup xs => some (!xs.isEmpty)
  | _ => none

/-- two flat values of one kind -/
def flat2 : D → D → Bool
  | .int _, .int _ => true
  | .bl _, .bl _ => true
  | .str _, .str _ => true
  | _, _ => false
def isNon : D → Bool
  | .non => true
  | _ => false

def cutD (xs : List D) (lo hi : Option Int) : List D := (xs.drop (HT.sIx xs.length 0 lo)).take (HT.sIx xs.length xs.length hi - HT.sIx xs.length 0 lo)

/-! ### types and keys -/
/-- the name of a value's type -/
def D.tyn : D → Option String
  | .non => some "NoneType"
  | .bl _ => some "bool"
  | .int _ => some "int"
  | .str _ => some "str"
  | .lst _ => some "list"
  | .tup _ => some "tuple"
  | .dct _ => some "dict"
  | .dci _ _ => some "dict"
  | .scr _ _ => some "list"
  | _ => none
def isiB (d : D) (n : String) : Option Bool := d.tyn.bind fun t => kitB t n
def isiA (d : D) : List String → Option Bool
  | [] => some false
  | n :: ns => match isiB d n with
    | some true => some true
    | some false => isiA d ns
    | none => none
def keyD : D → Option Key
  | .int i => some (.inl i)
  | .str x => some (.inr x)
  | _ => none
def valD : List (D × D) → Key → Option D
  | [], _ => none
  | (dk, d) :: r, k => if keyD dk = some k then some d else valD r k
def valN (kvs : List (NestedKey × D × D)) (k : NestedKey) : Option D := (kvs.find? fun p => decide (p.1 = k)).map (·.2.2)
/-- what sorted makes of data that are alike -/
def srtOk (ds : List D) : Prop := (∀ d ∈ ds, d.cmp = true ∧ d.ok = true) ∧ PySem.W.AllAlike (ds.map D.py) ∧ PySem.W.Sortable (ds.map D.py)
noncomputable def srtK (ds : List D) : List D := ds.mergeSort (PySem.W.dataLe false D.py)
/-- a list of flat values -/
def D.shal : D → Bool
  | .lst xs => xs.all D.flat
  | _ => false
def hasD (kvs : List (D × D)) (k : Key) : Bool := kvs.any fun p => decide (keyD p.1 = some k)
def putDD (kvs : List (D × D)) (k : Key) (d : D) : List (D × D) := if hasD kvs k = true then kvs.map (fun p => if keyD p.1 = some k then (p.1, d) else p) else kvs ++ [(kD k, d)]
def mergeDD (kvs : List (D × D)) (more : List (Key × D)) : List (D × D) := more.foldl (fun acc p => putDD acc p.1 p.2) kvs
/-! ### operators -/
inductive O2 where
  | add | sub | mul | mod | fdiv | pow
  | eq | ne | lt | le | gt | ge | isin | notin | is | isnot
  | ix
def seqOf : D → Option (List D)
  | .lst xs => some xs
  | .tup xs => some xs
  | _ => none
def eqD (a b : D) : Bool := PyData.eqv a.py b.py
def inD (x : D) (xs : List D) : Bool := xs.any fun y => eqD y x
/-- plain flat values -/
def D.pf : D → Bool
  | .non | .bl _ | .int _ | .str _ => true
  | _ => false
mutual
/-- how deep -/
def D.dep : D → Nat
  | .lst xs => depA xs + 1
  | .tup xs => depA xs + 1
  | _ => 0
def depA : List D → Nat
  | [] => 0
  | x :: xs => max x.dep (depA xs)
end
mutual
/-- dicts are told by where they stand -/
def D.keyed : D → Bool
  | .non => true
  | .bl _ => true
  | .int _ => true
  | .str _ => true
  | .dci _ _ => true
  | .lst xs => keyedA xs
  | .tup xs => keyedA xs
  | _ => false
def keyedA : List D → Bool
  | [] => true
  | x :: xs => x.keyed && keyedA xs
end
/-- what may be compared with its like -/
def D.isSq : D → Bool
  | .lst _ => true
  | .tup _ => true
  | _ => false
def D.same (d : D) : Bool := d.isSq && d.keyed && decide (d.dep ≤ 40)
/-- two lists of unlike lengths -/
def lenNe : D → D → Prop
  | .lst xs, .lst ys => xs.length ≠ ys.length
  | _, _ => False
def eqOk (a b : D) : Prop := (a.pf = true ∧ b.pf = true) ∨ (a.cmp = true ∧ b.cmp = true) ∨ lenNe a b
def inOk (a : D) (xs : List D) : Prop := (a.pf = true ∧ xs.all D.pf = true) ∨ (a.cmp = true ∧ (D.lst xs).cmp = true)
def semEq (neg : Bool) (a b : D) (Q : R → Prop) : Prop := (eqOk a b ∧ Q (.fz (.bl (if neg then !eqD a b else eqD a b)))) ∨ (neg = false ∧ a = b ∧ a.same = true ∧ Q (.fz (.bl true)))
def semIn (W : Program × World) (neg : Bool) (a b : D) (Q : R → Prop) : Prop :=
  match b with
  | .lst xs => inOk a xs ∧ Q (.fz (.bl (if neg then !inD a xs else inD a xs)))
  | .tup xs => inOk a xs ∧ Q (.fz (.bl (if neg then !inD a xs else inD a xs)))
  | .str y => match a with
    | .str x => Q (.fz (.bl (if neg then !(!(Builtin.Str.occurrences y x 0 y.length 1).isEmpty) else !(Builtin.Str.occurrences y x 0 y.length 1).isEmpty)))
    | _ => False
  | .dcn W' kvs => match a with
    | .tup xs => W' = W ∧ ∃ k, (D.tup xs).nk = some k ∧ k.depth ≤ 8 ∧ Q (.fz (.bl (if neg then !(kvs.any fun p => decide (p.1 = k)) else kvs.any fun p => decide (p.1 = k))))
    | _ => False
  | _ => False
def semCmp (p : Int → Int → Bool) (a b : D) (Q : R → Prop) : Prop :=
  match a, b with
  | .int i, .int j => Q (.fz (.bl (p i j)))
  | _, _ => False
def sem2 (W : Program × World) (o : O2) (a b : D) (Q : R → Prop) : Prop :=
  match o with
  | .add => match a, b with
    | .int i, .int j => Q (.fz (.int (i + j)))
    | .str x, .str y => x.length + y.length ≤ sizeLine ∧ Q (.fz (.str (x ++ y)))
    | .lst xs, .lst ys => xs.length + ys.length ≤ sizeLine ∧ Q (.ow (.lst (xs ++ ys)))
    | .tup xs, .tup ys => xs.length + ys.length ≤ sizeLine ∧ Q (.fz (.tup (xs ++ ys)))
    | _, _ => False
  | .sub => match a, b with
    | .int i, .int j => Q (.fz (.int (i - j)))
    | _, _ => False
  | .mul => match a, b with
    | .int i, .int j => CMul i j ∧ Q (.fz (.int (i * j)))
    | .lst xs, .int k => -(2 ^ 63) ≤ k ∧ k < 2 ^ 63 ∧ xs.length * k.toNat ≤ sizeLine ∧ Q (.ow (.lst (List.replicate k.toNat xs).flatten))
    | _, _ => False
  | .mod => match a, b with
    | .int i, .int j => 0 < j ∧ Q (.fz (.int (i % j)))
    | _, _ => False
  | .fdiv => match a, b with
    | .int i, .int j => CDiv i j ∧ Q (.fz (.int (i / j)))
    | _, _ => False
  | .pow => match a, b with
    | .int i, .int j => CPow i j ∧ Q (.fz (.int (i ^ j.toNat)))
    | _, _ => False
  | .eq => semEq false a b Q
  | .ne => semEq true a b Q
  | .lt => semCmp (fun i j => decide (i < j)) a b Q
  | .le => semCmp (fun i j => decide (i ≤ j)) a b Q
  | .gt => semCmp (fun i j => decide (j < i)) a b Q
  | .ge => semCmp (fun i j => decide (j ≤ i)) a b Q
  | .isin => semIn W false a b Q
  | .notin => semIn W true a b Q
  | .is => match a, b with
    | .bl x, .bl y => Q (.fz (.bl (decide (x = y))))
    | a, .non => a.ok = true ∧ Q (.fz (.bl (isNon a)))
    | _, _ => False
  | .isnot => match a, b with
    | .bl x, .bl y => Q (.fz (.bl (!decide (x = y))))
    | a, .non => a.ok = true ∧ Q (.fz (.bl (!isNon a)))
    | _, _ => False
  | .ix => match a, b with
    | .lst xs, .int i => ∃ d, atI xs i = some d ∧ Q (.fz d)
    | .tup xs, .int i => ∃ d, atI xs i = some d ∧ Q (.fz d)
    | .scr _ ns, .int i => ∃ n, atI ns i = some n ∧ Q (.fz (.int n))
    | .dct kvs, .str x => ∃ d, valD kvs (.inr x) = some d ∧ Q (.fz d)
    | .dct kvs, .int x => ∃ d, valD kvs (.inl x) = some d ∧ Q (.fz d)
    | .str x, .int i => x.length ≤ sizeLine ∧ ∃ c, atI x.cps.toList i = some c ∧ Q (.fz (.str ⟨#[c]⟩))
    | .dcn W' kvs, .tup ks => W' = W ∧ ∃ k d, (D.tup ks).nk = some k ∧ k.depth ≤ 8 ∧ valN kvs k = some d ∧ Q (.fz d)
    | _, _ => False

/-- comparisons of ints -/
def cmpI : O2 → Int → Int → Option Bool
  | .lt, i, j => some (decide (i < j))
  | .le, i, j => some (decide (i ≤ j))
  | .gt, i, j => some (decide (j < i))
  | .ge, i, j => some (decide (j ≤ i))
  | _, _, _ => none
def strD (z : Str) : List D := z.cps.toList.map fun c => .str ⟨#[c]⟩
def rangeC (i c : Int) (n : Nat) : List D := (List.range n).map fun k => .int (i + (k : Nat) * c)
inductive O1 where
  | neg
def sem1 (o : O1) (a : D) (Q : R → Prop) : Prop :=
  match o with
  | .neg => match a with
    | .int i => Q (.fz (.int (-i)))
    | _ => False

/-! ### built-in calls, by name -/
inductive B1 where
  | len | abs | int | str | list | tuple | sorted | repr | all | any | sum | isi | dict | min | max
def semB (b : B1) (ds : List D) (Q : R → Prop) : Prop :=
  match b with
  | .len => match ds with
    | [.lst xs] => Q (.fz (.int xs.length))
    | [.tup xs] => Q (.fz (.int xs.length))
    | [.str x] => x.length ≤ sizeLine ∧ Q (.fz (.int x.length))
    | [.dct xs] => Q (.fz (.int xs.length))
    | [.scr _ xs] => Q (.fz (.int xs.length))
    | _ => False
  | .abs => match ds with
    | [.int i] => Q (.fz (.int (if i < 0 then -i else i)))
    | _ => False
  | .int => match ds with
    | [.int i] => Q (.fz (.int i))
    | [.bl b] => Q (.fz (.int (if b then 1 else 0)))
    | _ => False
  | .str => match ds with
    | [.int i] => i.natAbs.log2 < 1920 ∧ Q (.fz (.str (toString i)))
    | _ => False
  | .list => match ds with
    | [.lst xs] => Q (.ow (.lst xs))
    | [.tup xs] => Q (.ow (.lst xs))
    | _ => False
  | .tuple => match ds with
    | [.lst xs] => Q (.fz (.tup xs))
    | [.tup xs] => Q (.fz (.tup xs))
    | _ => False
  | .sorted => match ds with
    | [.lst xs] => (∃ ss : List Str, xs = ss.map D.str ∧ ss.length < 64 ∧ ∀ ys : List Str, ys.Perm ss → sortedS ys = true → Q (.ow (.lst (ys.map D.str)))) ∨
        (∃ ns : List Int, xs = ns.map D.int ∧ ns.length < 64 ∧ ∀ ys : List Int, ys.Perm ns → ys.Pairwise (· ≤ ·) → Q (.ow (.lst (ys.map D.int)))) ∨ (srtOk xs ∧ xs.length ≤ 65536 ∧ Q (.ow (.lst (srtK xs))))
    | [.dct kvs] => ∃ ks : List Str, kvs.map (·.1) = ks.map D.str ∧ ks.length < 64 ∧ ∀ ys : List Str, ys.Perm ks → sortedS ys = true → Q (.ow (.lst (ys.map D.str)))
    | _ => False
  | .repr => match ds with
    | [d] => d.shw = true ∧ Q (.fz (.str d.py.shown))
    | _ => False
  | .all => match ds with
    | [.lst xs] => ∃ bs : List Bool, xs = bs.map D.bl ∧ Q (.fz (.bl (bs.all id)))
    | _ => False
  | .any => match ds with
    | [.lst xs] => ∃ bs : List Bool, xs = bs.map D.bl ∧ Q (.fz (.bl (bs.any id)))
    | _ => False
  | .sum => match ds with
    | [.lst xs] => ∃ ns : List Int, xs = ns.map D.int ∧ Q (.fz (.int ns.sum))
    | _ => False
  | .isi => match ds with
    | [d, .opq (.ty n)] => ∃ b, isiB d n = some b ∧ Q (.fz (.bl b))
    | [d, .tup us] => ∃ (ns : List String) (b : Bool), us = ns.map (fun n => D.opq (.ty n)) ∧ d.tyn.isSome = true ∧ isiA d ns = some b ∧ Q (.fz (.bl b))
    | _ => False
  | .dict => match ds with
    | [.lst ps] => ∃ kvs : List (Key × D), ps = kvs.map (fun p => D.tup [kD p.1, p.2]) ∧ Q (.ow (.dct (mergeDD [] kvs)))
    | [.dct kvs] => Q (.ow (.dct kvs))
    | _ => False
  | .min => match ds with
    | [.int i, .int j] => Q (.fz (.int (if j < i then j else i)))
    | [.lst xs] => ∃ ns : List Int, xs = ns.map D.int ∧ 0 < ns.length ∧ ∀ m, m ∈ ns → (∀ y, y ∈ ns → m ≤ y) → Q (.fz (.int m))
    | _ => False
  | .max => match ds with
    | [.int i, .int j] => Q (.fz (.int (if j > i then j else i)))
    | _ => False

/-! ### methods that change the own list in a slot -/
inductive M2 where
  | append | extend | pop | popAt | insert
def semM (m : M2) (d : D) (ds : List D) (Q : D → D → Prop) : Prop :=
  match m with
  | .append => match d, ds with
    | .lst xs, [y] => xs.length < sizeLine ∧ Q (.lst (xs ++ [y])) .non
    | _, _ => False
  | .extend => match d, ds with
    | .lst xs, [.lst ys] => xs.length + ys.length ≤ sizeLine ∧ Q (.lst (xs ++ ys)) .non
    | _, _ => False
  | .pop => match d, ds with
    | .lst xs, [] => ∃ y, xs[xs.length - 1]? = some y ∧ Q (.lst xs.dropLast) y
    | _, _ => False
  | .popAt => match d, ds with
    | .lst xs, [.int i] => -(2 ^ 63) ≤ i ∧ i < 2 ^ 63 ∧ ∃ k y, seqIndex? i xs.length = some k ∧ xs[k]? = some y ∧ Q (.lst (xs.eraseIdx k)) y
    | _, _ => False
  | .insert => match d, ds with
    | .lst xs, [.int i, y] => xs.length < sizeLine ∧ 0 ≤ i ∧ i < 2 ^ 63 ∧ Q (.lst (xs.take i.toNat ++ [y] ++ xs.drop i.toNat)) .non
    | _, _ => False

/-! ### methods that change nothing -/
inductive N1 where
  | split
def semN (m : N1) (d : D) (ds : List D) (Q : R → Prop) : Prop :=
  match m with
  | .split => match d, ds with
    | .str a, [.str b] => (b.length == 0) = false ∧ a.length + 2 ≤ sizeLine ∧ Q (.ow (.lst ((Txt.split a b).map D.str)))
    | _, _ => False

/-! ### the language -/
inductive CG where
  | name (i : Nat)
  | tup (gs : List Nat)
mutual
inductive CE where
  | var (i : Nat)
  | con (d : D)
  | op2 (o : O2) (a b : CE)
  | op1 (o : O1) (a : CE)
  | glo (k : Nat)
  | and (a b : CE)
  | or (a b : CE)
  | not (a : CE)
  | ifx (c : CT) (a b : CE)
  | lst (es : CA)
  | tup (es : CA)
  | slc (a : CE) (lo hi : CO)
  | bi (b : B1) (es : CA)
  | mut (m : M2) (i : Nat) (es : CA)
  | call (k : Nat) (es : CA)
  | meth (m : N1) (a : CE) (e : CE)
  | sset (e : CE)
  | dn1 (k v : CE)
  | tyc (n : String)
  | chn (o o' : O2) (a b c : CE)
  | dk0
  | dk1 (x : Str) (v : CE)
  | upper (a : CE)
  | cnt (a e : CE)
  | join (a e : CE)
  | dget (a k : CE)
  | dgetd (a k z : CE)
  | gix (k : Nat) (e : CE)
  | dn0
  | callS (k : Nat) (es : CA)
  | dcomp (own : List Nat) (g : CG) (it : CI) (a e : CE)
  | sortn (e : CE)
  | cpy (j i : Nat)
  | dks (fz : Bool) (xs : List Str) (es : CA)
  | items (i : Nat)
  | heard (k : Nat) (es : CA)
  | compk (own : List Nat) (g : CG) (i : Nat) (c : CC) (e : CE)
  | comp (own : List Nat) (g : CG) (it : CI) (c : CC) (e : CE)
inductive CA where
  | nil
  | cons (e : CE) (es : CA)
  | star (e : CE) (es : CA)
inductive CO where
  | none
  | some (e : CE)
inductive CC where
  | none
  | some (c : CT)
inductive CT where
  | cmp (o : O2) (a b : CE)
  | chn (o o' : O2) (a b c : CE)
  | and (a b : CT)
  | or (a b : CT)
  | not (a : CT)
  | val (e : CE)
  | gin (neg : Bool) (k : Nat) (e : CE)
inductive CI where
  | seq (e : CE)
  | range (es : CA)
  | enum (e : CE)
  | zip (es : CA)
end
inductive CS where
  | asg (g : CG) (e : CE)
  | par (i j : Nat) (a b : CE)
  | sub (i : Nat) (k e : CE)
  | aug (i : Nat) (o : O2) (e : CE)
  | augS (i : Nat) (k e : CE)
  | dset (i : Nat) (k e : CE)
  | expr (e : CE)
  | ret (e : CE)
  | ite (c : CT) (a b : List CS)
  | for_ (g : CG) (it : CI) (b : List CS)
  | while_ (c : CT) (b : List CS)
  | brk | cont | pass
  | never
  | raise (e : CE)
  | xcall (k : Nat) (es : CA)
  | sub2 (i : Nat) (k l : CE) (a b : CE)

/-! ### states -/
def Sta.put (ρ : Sta) (i : Nat) (m : M) : Sta := { ρ with sl := ρ.sl.set i m }
/-- the own list in a slot is not changed any more -/
def frz1 : M → M
  | .ow d => .fz d
  | m => m
def Sta.frz (ρ : Sta) (i : Nat) : Sta := match ρ.sl[i]? with
  | some (.ow d) => ρ.put i (.fz d)
  | _ => ρ
/-- a result that is kept somewhere -/
def keep (r : R) (ρ : Sta) (Q : D → Sta → Prop) : Prop := match r with
  | .fz d => Q d ρ
  | .ow d => Q d ρ
  | .al i => match ρ.sl[i]? with
    | some (.ow d) => Q d (ρ.put i (.fz d))
    | _ => False
/-- an operand: a new list is not changed any more, an own one stands as it is -/
def opd : R → R
  | .ow d => .fz d
  | r => r
def rd (ρ : Sta) (r : R) (Q : D → Prop) : Prop := match r with
  | .fz d => Q d
  | .ow d => Q d
  | .al i => match ρ.sl[i]? with
    | some (.ow d) => Q d
    | _ => False
def rdA (ρ : Sta) : List R → (List D → Prop) → Prop
  | [], Q => Q []
  | r :: rs, Q => rd ρ r fun d => rdA ρ rs fun ds => Q (d :: ds)
def frzA (ρ : Sta) : List R → Sta
  | [] => ρ
  | .al i :: rs => frzA (ρ.frz i) rs
  | _ :: rs => frzA ρ rs
def asgN : List Nat → List D → Sta → Option Sta
  | [], [], ρ => some ρ
  | i :: is, d :: ds, ρ => asgN is ds (ρ.put i (.fz d))
  | _, _, _ => none
def asgG (g : CG) (d : D) (ρ : Sta) (Q : Sta → Prop) : Prop := match g with
  | .name i => Q (ρ.put i (.fz d))
  | .tup is => match d with
    | .tup ds => ∃ ρ', asgN is ds ρ = some ρ' ∧ Q ρ'
    | _ => False
def wipes (ρ : Sta) : List Nat → Sta
  | [] => ρ
  | i :: is => (wipes ρ is).put i .un
def backs (ρ₀ ρ : Sta) : List Nat → Sta
  | [] => ρ
  | i :: is => (backs ρ₀ ρ is).put i (match ρ₀.sl[i]? with
    | some (.fz d) => .fz d
    | _ => .un)
/-- the turns of a comprehension -/
def compD (step : D → Sta → (Option D → Sta → Prop) → Prop) : List D → List D → Sta → (List D → Sta → Prop) → Prop
  | [], acc, ρ, Q => Q acc ρ
  | d :: ds, acc, ρ, Q => acc.length < sizeLine ∧ step d ρ fun o ρ' => compD step ds (acc ++ o.toList) ρ' Q

structure En where
  nx : Sta → Prop
  rt : R → Sta → Prop
  bk : Sta → Prop
  ct : Sta → Prop
  xc : D → Sta → Prop := fun _ _ => False
def forD (step : D → Sta → En → Prop) : List D → Sta → En → Prop
  | [], ρ, E => E.nx ρ
  | d :: ds, ρ, E => step d ρ { nx := fun ρ' => forD step ds ρ' E, ct := fun ρ' => forD step ds ρ' E, bk := E.nx, rt := E.rt, xc := E.xc }
def whileD (c : Sta → (Bool → Sta → Prop) → Prop) (b : Sta → En → Prop) (ρ : Sta) (E : En) : Prop :=
  ∃ I : Nat → Sta → Prop, (∃ m, I m ρ) ∧ ∀ m ρ, I m ρ → c ρ fun k ρ' => if k = true then b ρ' { nx := fun ρ2 => ∃ m', m' < m ∧ I m' ρ2, ct := fun ρ2 => ∃ m', m' < m ∧ I m' ρ2, bk := E.nx, rt := E.rt, xc := E.xc } else E.nx ρ'

/-- what a def promises, over data: the bag, the arguments, what is wanted of its answer -/
abbrev DSp := Option Bag → List D → (R → Prop) → Prop
/-- .. of a def that may end by an error -/
abbrev DSpX := Option Bag → List D → (R → Prop) → (D → Prop) → Prop
structure Tb where
  W : Program × World
  fn : Nat → DSp
  gl : Nat → D
  xfn : Nat → DSpX := fun _ _ _ _ _ => False
  cn : Addr := 0
  fx : Str := "path"
  tabs : List (Addr × Str) := []
  gd : Nat → List (Str × Str) := fun _ => []

def putN (kvs : List (NestedKey × D × D)) (k : NestedKey) (dk d : D) : List (NestedKey × D × D) := if (kvs.any fun p => decide (p.1 = k)) then kvs.map (fun p => if p.1 = k then (p.1, p.2.1, d) else p) else kvs ++ [(k, dk, d)]
/-- the turns of a dict comprehension -/
def dcompD (step : D → Sta → (D → D → Sta → Prop) → Prop) : List D → List (NestedKey × D × D) → Sta → (List (NestedKey × D × D) → Sta → Prop) → Prop
  | [], acc, ρ, Q => Q acc ρ
  | d :: ds, acc, ρ, Q => acc.length < sizeLine ∧ step d ρ fun x y ρ' => match x with
    | .tup xs => ∃ n, (D.tup xs).nk = some n ∧ n.depth ≤ 8 ∧ dcompD step ds (putN acc n (.tup xs) y) ρ' Q
    | _ => False
def rangeD (lo hi : Int) : List D := (List.range (hi - lo).toNat).map fun i => .int (lo + (i : Nat))
def zipD (ds es : List D) : List D := (ds.zip es).map fun p => .tup [p.1, p.2]
def enumD (ds : List D) : List D := ds.zipIdx.map fun p => .tup [.int (p.2 : Nat), p.1]

mutual
def evE (T : Tb) : CE → Sta → (R → Sta → Prop) → Prop
  | .var i, ρ, Q => match ρ.sl[i]? with
    | some (.fz d) => Q (.fz d) ρ
    | some (.ow _) => Q (.al i) ρ
    | _ => False
  | .con d, ρ, Q => Q (.fz d) ρ
  | .op2 o a b, ρ, Q => evE T a ρ fun r ρ1 => evE T b ρ1 fun s ρ2 => rd ρ2 r fun x => rd ρ2 s fun y => sem2 T.W o x y fun z => Q z ρ2
  | .op1 o a, ρ, Q => evE T a ρ fun r ρ1 => rd ρ1 r fun x => sem1 o x fun z => Q z ρ1
  | .glo k, ρ, Q => Q (.fz (T.gl k)) ρ
  | .and a b, ρ, Q => evE T a ρ fun r ρ1 => match r with
    | .fz (.bl k) => if k = true then evE T b ρ1 Q else Q (.fz (.bl false)) ρ1
    | _ => False
  | .or a b, ρ, Q => evE T a ρ fun r ρ1 => match r with
    | .fz (.bl k) => if k = true then Q (.fz (.bl true)) ρ1 else evE T b ρ1 Q
    | _ => False
  | .not a, ρ, Q => evE T a ρ fun r ρ1 => match r with
    | .fz (.bl k) => Q (.fz (.bl (!k))) ρ1
    | _ => False
  | .ifx c a b, ρ, Q => evT T c ρ fun k ρ1 => if k = true then evE T a ρ1 Q else evE T b ρ1 Q
  | .lst es, ρ, Q => evK T es ρ fun ds ρ1 => ds.length ≤ sizeLine ∧ Q (.ow (.lst ds)) ρ1
  | .tup es, ρ, Q => evK T es ρ fun ds ρ1 => ds.length ≤ sizeLine ∧ Q (.fz (.tup ds)) ρ1
  | .slc a lo hi, ρ, Q => evE T a ρ fun r ρ1 => evO T lo ρ1 fun l ρ2 => evO T hi ρ2 fun h ρ3 => rd ρ3 r fun x => match x with
    | .lst xs => Q (.ow (.lst (cutD xs l h))) ρ3
    | .tup xs => Q (.fz (.tup (cutD xs l h))) ρ3
    | .scr _ ns => Q (.ow (.lst (cutD (ns.map D.int) l h))) ρ3
    | .str z => z.length ≤ sizeLine ∧ Q (.fz (.str (cutS z l h))) ρ3
    | _ => False
  | .bi b es, ρ, Q => evA T es ρ fun rs ρ1 => rdA ρ1 rs fun ds => semB b ds fun z => Q z ρ1
  | .mut m i es, ρ, Q => (∃ xs, ρ.sl[i]? = some (.ow (.lst xs))) ∧ evK T es ρ fun ds ρ1 => match ρ1.sl[i]? with
    | some (.ow d) => semM m d ds fun d' z => Q (.fz z) (ρ1.put i (.ow d'))
    | _ => False
  | .call k es, ρ, Q => evA T es ρ fun rs ρ1 => rdA ρ1 rs fun ds => T.fn k ρ1.bag ds fun z => match z with
    | .fz d => if d.flat = true then Q (.fz d) ρ1 else Q (.fz d) (frzA ρ1 rs)
    | .ow d => Q (.ow d) (frzA ρ1 rs)
    | .al _ => True
  | .meth m a e, ρ, Q => evE T a ρ fun r ρ1 => match r with
    | .fz (.str x) => evE T e ρ1 fun s ρ2 => rd ρ2 s fun y => semN m (.str x) [y] fun z => Q z ρ2
    | _ => False
  | .sset e, ρ, Q => evE T e ρ fun r ρ1 => rd ρ1 r fun x => match x with
    | .lst xs => ∃ ns : List Int, xs = ns.map D.int ∧ ns.length < 64 ∧ ∀ ys : List Int, ys.Pairwise (· < ·) → (∀ k, k ∈ ys ↔ k ∈ ns) → Q (.ow (.lst (ys.map D.int))) ρ1
    | _ => False
  | .dn1 k v, ρ, Q => evE T k ρ fun r ρ1 => keep r ρ1 fun x ρ2 => evE T v ρ2 fun s ρ3 => keep s ρ3 fun y ρ4 => match x with
    | .tup xs => ∃ n, (D.tup xs).nk = some n ∧ n.depth ≤ 8 ∧ Q (.ow (.dcn T.W [(n, .tup xs, y)])) ρ4
    | _ => False
  | .tyc n, ρ, Q => Q (.fz (.opq (.ty n))) ρ
  | .chn o o' a b c, ρ, Q => evE T a ρ fun r ρ1 => evE T b ρ1 fun s ρ2 => match r, s with
    | .fz (.int i), .fz (.int j) => ∃ k, cmpI o i j = some k ∧ if k = true then (evE T c ρ2 fun t ρ3 => match t with
      | .fz (.int l) => ∃ k', cmpI o' j l = some k' ∧ Q (.fz (.bl k')) ρ3
      | _ => False) else Q (.fz (.bl false)) ρ2
    | _, _ => False
  | .dk0, ρ, Q => Q (.ow (.dct [])) ρ
  | .dk1 x v, ρ, Q => evE T v ρ fun s ρ1 => keep s ρ1 fun y ρ2 => Q (.ow (.dct [(.str x, y)])) ρ2
  | .upper a, ρ, Q => evE T a ρ fun r ρ1 => rd ρ1 r fun x => match x with
    | .str z => z.length ≤ 5592405 ∧ Q (.fz (.str (Txt.upper z))) ρ1
    | _ => False
  | .cnt a e, ρ, Q => evE T a ρ fun r ρ1 => (rd ρ1 r fun x => ∃ xs, x = .lst xs) ∧ evE T e ρ1 fun s ρ2 => rd ρ2 (opd r) fun x => rd ρ2 s fun y => match x, y with
    | .lst xs, .str z => ∃ ss : List Str, xs = ss.map D.str ∧ Q (.fz (.int (ss.countP fun w => decide (w = z) : Nat))) ρ2
    | _, _ => False
  | .join a e, ρ, Q => evE T a ρ fun r ρ1 => match r with
    | .fz (.str x) => evE T e ρ1 fun s ρ2 => rd ρ2 s fun y => match y with
      | .lst ys => ∃ ss : List Str, ys = ss.map D.str ∧ (ss.map (·.length)).sum + ss.length * x.length ≤ 16777216 ∧ Q (.fz (.str (Txt.join x ss))) ρ2
      | _ => False
    | _ => False
  | .dget a e, ρ, Q => evE T a ρ fun r ρ1 => (rd ρ1 r fun x => ∃ kvs, x = .dct kvs) ∧ evE T e ρ1 fun s ρ2 => rd ρ2 (opd r) fun x => rd ρ2 s fun y => match x, y with
    | .dct kvs, .str z => Q (.fz ((valD kvs (.inr z)).getD .non)) ρ2
    | _, _ => False
  | .dgetd a e f, ρ, Q => evE T a ρ fun r ρ1 => (rd ρ1 r fun x => ∃ kvs, x = .dct kvs) ∧ evE T e ρ1 fun s ρ2 => match s with
    | .fz (.str z) => evE T f ρ2 fun t ρ3 => keep t ρ3 fun w ρ4 => rd ρ4 (opd r) fun x => (match x with
      | .dct kvs => Q (.fz ((valD kvs (.inr z)).getD w)) ρ4
      | _ => False)
    | _ => False
  | .gix k e, ρ, Q => evE T e ρ fun r ρ1 => match r with
    | .fz (.str x) => ∃ y, (T.gd k).lookup x = some y ∧ Q (.fz (.str y)) ρ1
    | _ => False
  | .dn0, ρ, Q => Q (.ow (.dcn T.W [])) ρ
  | .callS k es, ρ, Q => evA T es ρ fun rs ρ1 => rdA ρ1 rs fun ds => T.fn k ρ1.bag ds fun z => match z with
    | .ow d => d.shal = true ∧ Q (.ow d) ρ1
    | .fz d => d.flat = true ∧ Q (.fz d) ρ1
    | .al _ => True
  | .sortn e, ρ, Q => evE T e ρ fun r ρ1 => rd ρ1 r fun x => match x with
    | .dcn W kvs => W = T.W ∧ srtOk (kvs.map (·.2.1)) ∧ kvs.length ≤ 65536 ∧ Q (.ow (.lst (srtK (kvs.map (·.2.1))))) ρ1
    | _ => False
  | .dcomp own g it a e, ρ, Q => evI T it ρ fun ds ρ1 => dcompD (fun d ρ2 k => asgG g d ρ2 fun ρ3 => evE T a ρ3 fun r ρ4 => keep r ρ4 fun x ρ5 => evE T e ρ5 fun s ρ6 => keep s ρ6 fun y ρ7 => k x y (wipes ρ7 own)) ds [] (wipes ρ1 own) fun acc ρ7 => Q (.ow (.dcn T.W acc)) (backs ρ1 ρ7 own)
  | .cpy j i, ρ, Q => match ρ.sl[i]? with
    | some (.ow (.lst xs)) => j < ρ.sl.length ∧ xs.length ≤ sizeLine ∧ Q (.ow (.lst xs)) ρ
    | _ => False
  | .dks fz xs es, ρ, Q => evK T es ρ fun ds ρ1 => xs.length = ds.length ∧ xs.Nodup ∧ if fz = true then ∀ a, Q (.fz (.dci a ((xs.zip ds).map fun p => (.str p.1, p.2)))) ρ1 else Q (.ow (.dct ((xs.zip ds).map fun p => (.str p.1, p.2)))) ρ1
  | .items i, ρ, Q => match ρ.sl[i]? with
    | some (.ow (.dct kvs)) => ∃ xs : List (Key × D), kvs = xs.map (fun p => (kD p.1, p.2)) ∧ Q (.ow (.lst (xs.map fun p => .tup [kD p.1, p.2]))) ρ
    | _ => False
  | .heard k es, ρ, Q => (∃ b, ρ.bag = some b ∧ b.2.2 = T.tabs) ∧ evA T es ρ fun rs ρ1 => rdA ρ1 rs fun ds => T.xfn k ρ1.bag ds (fun z => match z with
    | .fz d => Q (.fz (.tup [.str "told", d])) (frzA ρ1 rs)
    | .ow d => Q (.fz (.tup [.str "told", d])) (frzA ρ1 rs)
    | .al _ => True) fun d => Q (.fz (.tup [.str "row", d])) (frzA ρ1 rs)
  | .compk own g i c e, ρ, Q => match ρ.sl[i]? with
    | some (.fz (.dct kvs)) => compD (fun d ρ2 k => asgG g d ρ2 fun ρ3 => evC T c ρ3 fun b ρ4 =>
      if b = true then evE T e ρ4 fun r ρ5 => keep r ρ5 fun x ρ6 => k (some x) (wipes ρ6 own) else k none (wipes ρ4 own)) (kvs.map (·.1)) [] (wipes ρ own) fun acc ρ7 => Q (.ow (.lst acc)) (backs ρ ρ7 own)
    | _ => False
  | .comp own g it c e, ρ, Q => evI T it ρ fun ds ρ1 => compD (fun d ρ2 k => asgG g d ρ2 fun ρ3 => evC T c ρ3 fun b ρ4 =>
      if b = true then evE T e ρ4 fun r ρ5 => keep r ρ5 fun x ρ6 => k (some x) (wipes ρ6 own) else k none (wipes ρ4 own)) ds [] (wipes ρ1 own) fun acc ρ7 => Q (.ow (.lst acc)) (backs ρ1 ρ7 own)
/-- operands -/
def evA (T : Tb) : CA → Sta → (List R → Sta → Prop) → Prop
  | .nil, ρ, Q => Q [] ρ
  | .cons e es, ρ, Q => evE T e ρ fun r ρ1 => evA T es ρ1 fun rs ρ2 => Q (opd r :: rs) ρ2
  | .star _ _, _, _ => False
/-- values that are kept -/
def evK (T : Tb) : CA → Sta → (List D → Sta → Prop) → Prop
  | .nil, ρ, Q => Q [] ρ
  | .cons e es, ρ, Q => evE T e ρ fun r ρ1 => keep r ρ1 fun d ρ2 => evK T es ρ2 fun ds ρ3 => Q (d :: ds) ρ3
  | .star e es, ρ, Q => evE T e ρ fun r ρ1 => keep r ρ1 fun d ρ2 => ∃ xs, seqOf d = some xs ∧ evK T es ρ2 fun ds ρ3 => Q (xs ++ ds) ρ3
def evO (T : Tb) : CO → Sta → (Option Int → Sta → Prop) → Prop
  | .none, ρ, Q => Q none ρ
  | .some e, ρ, Q => evE T e ρ fun r ρ1 => match r with
    | .fz (.int i) => Q (some i) ρ1
    | _ => False
def evC (T : Tb) : CC → Sta → (Bool → Sta → Prop) → Prop
  | .none, ρ, Q => Q true ρ
  | .some c, ρ, Q => evT T c ρ Q
def evT (T : Tb) : CT → Sta → (Bool → Sta → Prop) → Prop
  | .cmp o a b, ρ, Q => evE T a ρ fun r ρ1 => evE T b ρ1 fun s ρ2 => rd ρ2 r fun x => rd ρ2 s fun y => sem2 T.W o x y fun z => match z with
    | .fz (.bl k) => Q k ρ2
    | _ => False
  | .chn o o' a b c, ρ, Q => evE T a ρ fun r ρ1 => evE T b ρ1 fun s ρ2 => match r, s with
    | .fz (.int i), .fz (.int j) => ∃ k, cmpI o i j = some k ∧ if k = true then (evE T c ρ2 fun t ρ3 => match t with
      | .fz (.int l) => ∃ k', cmpI o' j l = some k' ∧ Q k' ρ3
      | _ => False) else Q false ρ2
    | _, _ => False
  | .and a b, ρ, Q => evT T a ρ fun k ρ1 => if k = true then evT T b ρ1 Q else Q false ρ1
  | .or a b, ρ, Q => evT T a ρ fun k ρ1 => if k = true then Q true ρ1 else evT T b ρ1 Q
  | .not a, ρ, Q => evT T a ρ fun k ρ1 => Q (!k) ρ1
  | .val e, ρ, Q => evE T e ρ fun r ρ1 => rd ρ1 r fun d => ∃ k, d.truth = some k ∧ Q k ρ1
  | .gin neg k e, ρ, Q => evE T e ρ fun r ρ1 => match r with
    | .fz (.str x) => Q (if neg then !((T.gd k).lookup x).isSome else ((T.gd k).lookup x).isSome) ρ1
    | .fz .non => Q neg ρ1
    | _ => False
def evI (T : Tb) : CI → Sta → (List D → Sta → Prop) → Prop
  | .seq e, ρ, Q => evE T e ρ fun r ρ1 => keep r ρ1 fun d ρ2 => match d with
    | .lst ds => Q ds ρ2
    | .tup ds => Q ds ρ2
    | .str z => Q (strD z) ρ2
    | _ => False
  | .range es, ρ, Q => evA T es ρ fun rs ρ1 => match rs with
    | [.fz (.int j)] => -(2 ^ 62) ≤ j ∧ j < 2 ^ 62 ∧ Q (rangeD 0 j) ρ1
    | [.fz (.int i), .fz (.int j)] => (-(2 ^ 62) ≤ i ∧ i < 2 ^ 62 ∧ -(2 ^ 62) ≤ j ∧ j < 2 ^ 62) ∧ Q (rangeD i j) ρ1
    | [.fz (.int i), .fz (.int j), .fz (.int c)] => ∃ n, RgC i j c n ∧ Q (rangeC i c n) ρ1
    | _ => False
  | .enum e, ρ, Q => evE T e ρ fun r ρ1 => keep r ρ1 fun d ρ2 => match d with
    | .lst ds => Q (enumD ds) ρ2
    | .tup ds => Q (enumD ds) ρ2
    | _ => False
  | .zip es, ρ, Q => evK T es ρ fun ds ρ1 => match ds with
    | [d, e] => ∃ xs ys, seqOf d = some xs ∧ seqOf e = some ys ∧ Q (zipD xs ys) ρ1
    | _ => False
end

mutual
def evS (T : Tb) : CS → Sta → En → Prop
  | .asg g e, ρ, E => evE T e ρ fun r ρ1 => match g, r with
    | .name i, .ow d => E.nx (ρ1.put i (.ow d))
    | .name i, .fz d => E.nx (ρ1.put i (.fz d))
    | _, _ => keep r ρ1 fun d ρ2 => asgG g d ρ2 E.nx
  | .par i j a b, ρ, E => evE T a ρ fun r ρ1 => evE T b ρ1 fun s ρ2 => match r, s with
    | .ow d, .ow e => E.nx ((ρ2.put i (.ow d)).put j (.ow e))
    | .ow d, .fz e => E.nx ((ρ2.put i (.ow d)).put j (.fz e))
    | .fz d, .ow e => E.nx ((ρ2.put i (.fz d)).put j (.ow e))
    | .fz d, .fz e => E.nx ((ρ2.put i (.fz d)).put j (.fz e))
    | _, _ => False
  | .sub i k e, ρ, E => evE T e ρ fun r ρ1 => keep r ρ1 fun d ρ2 => (∃ x, ρ2.sl[i]? = some (.ow x)) ∧ evE T k ρ2 fun s ρ3 => match ρ3.sl[i]?, s with
    | some (.ow (.lst xs)), .fz (.int n) => ∃ j, ixN xs.length n = some j ∧ E.nx (ρ3.put i (.ow (.lst (xs.set j d))))
    | _, _ => False
  | .aug i o e, ρ, E => (∃ d, ρ.sl[i]? = some (.fz d)) ∧ evE T e ρ fun r ρ1 => match ρ.sl[i]?, r with
    | some (.fz (.int x)), .fz (.int y) => (match o with
      | .add => E.nx (ρ1.put i (.fz (.int (x + y))))
      | .sub => E.nx (ρ1.put i (.fz (.int (x - y))))
      | _ => False)
    | _, _ => False
  | .augS i k e, ρ, E => (∃ x, ρ.sl[i]? = some (.ow (.lst x))) ∧ evE T k ρ fun r ρ1 => match ρ1.sl[i]?, r with
    | some (.ow (.lst xs)), .fz (.int n) => ∃ j x, ixN xs.length n = some j ∧ xs[j]? = some (.int x) ∧ evE T e ρ1 fun s ρ2 => match ρ2.sl[i]?, s with
      | some (.ow (.lst ys)), .fz (.int y) => ys.length = xs.length ∧ E.nx (ρ2.put i (.ow (.lst (ys.set j (.int (x + y))))))
      | _, _ => False
    | _, _ => False
  | .dset i k e, ρ, E => evE T e ρ fun r ρ1 => keep r ρ1 fun d ρ2 => (∃ x, ρ2.sl[i]? = some (.ow x)) ∧ evE T k ρ2 fun s ρ3 => match ρ3.sl[i]?, s with
    | some (.ow (.dcn W kvs)), .fz (.tup ks) => W = T.W ∧ kvs.length < sizeLine ∧ ∃ n, (D.tup ks).nk = some n ∧ n.depth ≤ 8 ∧ E.nx (ρ3.put i (.ow (.dcn W (putN kvs n (.tup ks) d))))
    | some (.ow (.dct kvs)), .fz (.str x) => kvs.length < sizeLine ∧ E.nx (ρ3.put i (.ow (.dct (putDD kvs (.inr x) d))))
    | _, _ => False
  | .expr e, ρ, E => evE T e ρ fun _ ρ1 => E.nx ρ1
  | .ret e, ρ, E => evE T e ρ fun r ρ1 => E.rt r ρ1
  | .ite c a b, ρ, E => evT T c ρ fun k ρ1 => if k = true then evB T a ρ1 E else evB T b ρ1 E
  | .for_ g it b, ρ, E => evI T it ρ fun ds ρ1 => forD (fun d ρ2 E2 => asgG g d ρ2 fun ρ3 => evB T b ρ3 E2) ds ρ1 E
  | .while_ c b, ρ, E => whileD (evT T c) (evB T b) ρ E
  | .brk, ρ, E => E.bk ρ
  | .cont, ρ, E => E.ct ρ
  | .pass, ρ, E => E.nx ρ
  | .never, _, _ => False
  | .raise e, ρ, E => evE T e ρ fun r ρ1 => keep r ρ1 fun d ρ2 => E.xc d ρ2
  | .xcall k es, ρ, E => evA T es ρ fun rs ρ1 => rdA ρ1 rs fun ds => T.xfn k ρ1.bag ds (fun _ => E.nx (frzA ρ1 rs)) fun d => E.xc d (frzA ρ1 rs)
  | .sub2 i k l a b, ρ, E => evE T a ρ fun r ρ1 => keep r ρ1 fun d ρ2 => evE T b ρ2 fun r' ρ3 => keep r' ρ3 fun d' ρ4 => (∃ x, ρ4.sl[i]? = some (.ow x)) ∧ evE T k ρ4 fun s ρ5 => match ρ5.sl[i]?, s with
    | some (.ow (.lst xs)), .fz (.int n) => ∃ j, ixN xs.length n = some j ∧ evE T l (ρ5.put i (.ow (.lst (xs.set j d)))) fun s' ρ6 => (match ρ6.sl[i]?, s' with
      | some (.ow (.lst ys)), .fz (.int n') => ∃ j', ixN ys.length n' = some j' ∧ E.nx (ρ6.put i (.ow (.lst (ys.set j' d'))))
      | _, _ => False)
    | _, _ => False
def evB (T : Tb) : List CS → Sta → En → Prop
  | [], ρ, E => E.nx ρ
  | s :: ss, ρ, E => evS T s ρ { E with nx := fun ρ1 => evB T ss ρ1 E }
end
end DI

set_option Elab.async false
set_option linter.all false
set_option autoImplicit false
set_option maxRecDepth 100000
set_option maxHeartbeats 1000000
/-! DI0b: how slots change. -/
namespace DI
open PySem PySem.Spec PyProof.Rows L2
section
variable {F : Fr} {G H : Hp} {σ : L2.St} {ρ : Sta}
theorem put_sl (ρ : Sta) (i : Nat) (m : M) : (ρ.put i m).sl = ρ.sl.set i m := rfl
theorem put_bag (ρ : Sta) (i : Nat) (m : M) : (ρ.put i m).bag = ρ.bag := rfl
theorem put_at {ρ : Sta} {i j : Nat} {m m' : M} (h : (ρ.put i m).sl[j]? = some m') : (j = i ∧ m = m') ∨ (j ≠ i ∧ ρ.sl[j]? = some m') := by
  rw [put_sl] at h
  by_cases e : j = i
  · subst e
    by_cases hl : j < ρ.sl.length
    · rw [List.getElem?_set_self hl] at h; exact .inl ⟨rfl, Option.some.inj h⟩
    · rw [List.getElem?_eq_none (by simpa using hl)] at h; cases h
  · rw [List.getElem?_set_ne (Ne.symm e)] at h
    exact .inr ⟨e, h⟩
theorem set_at {σ : L2.St} {i j : Nat} {v : Option V} (h : j ≠ i) : (σ.set i v)[j]? = σ[j]? := List.getElem?_set_ne (Ne.symm h)
theorem set_self {σ : L2.St} {i : Nat} {v : Option V} (h : i < σ.length) : (σ.set i v)[i]? = some v := List.getElem?_set_self h

/-- a slot takes a value that is not changed any more -/
theorem Rl.put_fz0 {i : Nat} {v : V} {d : D} (r : Rl F G H σ ρ) (hi : i < σ.length) (h : Rp F.K G v d) : Rl F G H (σ.set i (some v)) (ρ.put i (.fz d)) := by
  refine ⟨r.sub, r.fr, by rw [put_sl, List.length_set, List.length_set]; exact r.len, fun j e q => ?_, fun j e q => ?_, fun j k e f a q1 q2 s1 s2 => ?_, r.bg, fun b j e q1 q2 => ?_⟩
  · rcases put_at q with ⟨ej, z0⟩ | ⟨ne, q⟩
    · subst ej; cases z0; exact ⟨v, set_self hi, h⟩
    · rw [set_at ne]; exact r.fz j e q
  · rcases put_at q with ⟨ej, z0⟩ | ⟨ne, q⟩
    · cases z0
    · rw [set_at ne]; exact r.ow j e q
  · rcases put_at q1 with ⟨ej, z0⟩ | ⟨n1, q1⟩
    · cases z0
    · rcases put_at q2 with ⟨ej, z0⟩ | ⟨n2, q2⟩
      · cases z0
      · rw [set_at n1] at s1; rw [set_at n2] at s2; exact r.ap j k e f a q1 q2 s1 s2
  · rcases put_at q2 with ⟨ej, z0⟩ | ⟨n2, q2⟩
    · cases z0
    · rw [set_at n2]; exact r.bo b j e q1 q2
theorem Rl.put_ow0 {i : Nat} {a : Addr} {d : D} (r : Rl F G H σ ρ) (hi : i < σ.length) (n : Nw F G H σ ρ a d) : Rl F G H (σ.set i (some (.ref a))) (ρ.put i (.ow d)) := by
  refine ⟨r.sub, r.fr, by rw [put_sl, List.length_set, List.length_set]; exact r.len, fun j e q => ?_, fun j e q => ?_, fun j k e f b q1 q2 s1 s2 => ?_, r.bg, fun b j e q1 q2 => ?_⟩
  · rcases put_at q with ⟨ej, z0⟩ | ⟨ne, q⟩
    · cases z0
    · rw [set_at ne]; exact r.fz j e q
  · rcases put_at q with ⟨ej, z0⟩ | ⟨ne, q⟩
    · subst ej; cases z0; exact ⟨a, set_self hi, n.np, n.gn, n.con⟩
    · rw [set_at ne]; exact r.ow j e q
  · rcases put_at q1 with ⟨ej, z0⟩ | ⟨n1, p1⟩
    · rcases put_at q2 with ⟨ek, z1⟩ | ⟨n2, p2⟩
      · exact ej.trans ek.symm
      · subst ej; rw [set_self hi] at s1; cases s1; rw [set_at n2] at s2; exact absurd s2 (n.sl k f p2)
    · rcases put_at q2 with ⟨ek, z1⟩ | ⟨n2, q2⟩
      · subst ek; rw [set_self hi] at s2; cases s2; rw [set_at n1] at s1; exact absurd s1 (n.sl j e p1)
      · rw [set_at n1] at s1; rw [set_at n2] at s2; exact r.ap j k e f b p1 q2 s1 s2
  · rcases put_at q2 with ⟨ej, z0⟩ | ⟨n2, q2⟩
    · subst ej; rw [set_self hi]; intro z; exact n.bg b q1 (by injection z with z; injection z with z; injection z with z; exact z.symm)
    · rw [set_at n2]; exact r.bo b j e q1 q2
theorem put_far {ρ : Sta} {i : Nat} {m : M} (h : ρ.sl.length ≤ i) : ρ.put i m = ρ := by
  unfold Sta.put
  rw [List.set_eq_of_length_le h]
theorem Rl.put_fz {i : Nat} {v : V} {d : D} (r : Rl F G H σ ρ) (h : Rp F.K G v d) : Rl F G H (σ.set i (some v)) (ρ.put i (.fz d)) := by
  by_cases hi : i < σ.length
  · exact r.put_fz0 hi h
  · have hl := r.len
    rw [List.set_eq_of_length_le (by omega), put_far (by omega)]
    exact r
theorem Rl.put_ow {i : Nat} {a : Addr} {d : D} (r : Rl F G H σ ρ) (n : Nw F G H σ ρ a d) : Rl F G H (σ.set i (some (.ref a))) (ρ.put i (.ow d)) := by
  by_cases hi : i < σ.length
  · exact r.put_ow0 hi n
  · have hl := r.len
    rw [List.set_eq_of_length_le (by omega), put_far (by omega)]
    exact r
/-- a slot is forgotten -/
theorem Rl.put_un {i : Nat} (r : Rl F G H σ ρ) : Rl F G H σ (ρ.put i .un) := by
  refine ⟨r.sub, r.fr, by rw [put_sl, List.length_set]; exact r.len, fun j e q => ?_, fun j e q => ?_, fun j k e f b q1 q2 s1 s2 => ?_, r.bg, fun b j e q1 q2 => ?_⟩
  · rcases put_at q with ⟨ej, z0⟩ | ⟨ne, q⟩
    · cases z0
    · exact r.fz j e q
  · rcases put_at q with ⟨ej, z0⟩ | ⟨ne, q⟩
    · cases z0
    · exact r.ow j e q
  · rcases put_at q1 with ⟨ej, z0⟩ | ⟨n1, q1⟩
    · cases z0
    · rcases put_at q2 with ⟨ej, z0⟩ | ⟨n2, q2⟩
      · cases z0
      · exact r.ap j k e f b q1 q2 s1 s2
  · rcases put_at q2 with ⟨ej, z0⟩ | ⟨n2, q2⟩
    · cases z0
    · exact r.bo b j e q1 q2
theorem set_same {σ : L2.St} {i : Nat} {v : Option V} (h : σ[i]? = some v) : σ.set i v = σ := by
  apply List.ext_getElem?
  intro j
  by_cases e : j = i
  · subst e
    have hl : j < σ.length := by
      rcases Nat.lt_or_ge j σ.length with q | q
      · exact q
      · rw [List.getElem?_eq_none q] at h; cases h
    rw [List.getElem?_set_self hl, h]
  · rw [List.getElem?_set_ne (Ne.symm e)]
theorem lt_of {α : Type} {l : List α} {i : Nat} {x : α} (h : l[i]? = some x) : i < l.length := (List.getElem?_eq_some_iff.mp h).1
theorem put_put (ρ : Sta) (i : Nat) (m m' : M) : (ρ.put i m).put i m' = ρ.put i m' := by
  unfold Sta.put
  simp
/-- the own thing of a slot, as a new one -/
theorem Rl.out {i : Nat} {d : D} {v : V} (r : Rl F G H σ ρ) (h : ρ.sl[i]? = some (.ow d)) (hs : σ[i]? = some (some v)) : ∃ a, v = .ref a ∧ Rl F G H σ (ρ.put i .un) ∧ Nw F G H σ (ρ.put i .un) a d := by
  obtain ⟨a, h1, h2, h3, h4⟩ := r.ow i d h
  rw [h1] at hs
  cases hs
  refine ⟨a, rfl, r.put_un, ⟨h2, h3, h4, fun j e q z => ?_, fun b e z => ?_⟩⟩
  · rcases put_at q with ⟨ej, z0⟩ | ⟨ne, q⟩
    · cases z0
    · exact ne (r.ap j i e d a q h z h1)
  · exact r.bo b i d e h (by rw [z]; exact h1)
/-- the own thing of a slot is not changed any more -/
theorem Rl.frzS {i : Nat} {d : D} {v : V} (r : Rl F G H σ ρ) (h : ρ.sl[i]? = some (.ow d)) (hs : σ[i]? = some (some v)) : ∃ G', Same G G' ∧ Rl F G' H σ (ρ.put i (.fz d)) ∧ Rp F.K G' v d := by
  obtain ⟨a, rfl, r1, n⟩ := r.out h hs
  obtain ⟨G', g, r2, p⟩ := r1.keepN n
  refine ⟨G', g, ?_, p⟩
  have q := r2.put_fz (i := i) p
  rw [set_same hs, put_put] at q
  exact q
/-- the own thing of a slot is changed -/
theorem Rl.mut {i : Nat} {d d' : D} {a : Addr} {o : HO} (r : Rl F G H σ ρ) (h : ρ.sl[i]? = some (.ow d)) (hs : σ[i]? = some (some (.ref a))) (c : Con F.K G (upd H a o) a d') : Rl F G (upd H a o) σ (ρ.put i (.ow d')) := by
  obtain ⟨a', h1, h2, h3, h4⟩ := r.ow i d h
  rw [h1] at hs
  cases hs
  have hsub : Same G (upd H a o) := fun b x e => by
    have hb : b ≠ a := fun z => by rw [z, h3] at e; cases e
    rw [upd_ne hb]; exact r.sub _ _ e
  refine ⟨hsub, fun b q => ?_, by rw [put_sl, List.length_set]; exact r.len, fun j e q => ?_, fun j e q => ?_, fun j k e f b q1 q2 s1 s2 => ?_, fun b e => ?_, fun b j e q1 q2 => ?_⟩
  · have hb : b ≠ a := fun z => h2 (z ▸ q)
    have nt : ntb ρ.bag (upd H a o) b := fun b' e' ps => by rw [upd_ne hb]; exact (r.fr b q).2.2.2.2 b' e' ps
    rw [upd_ne hb]; exact ⟨(r.fr b q).1, (r.fr b q).2.1, (r.fr b q).2.2.1, (r.fr b q).2.2.2.1, nt⟩
  · rcases put_at q with ⟨ej, z0⟩ | ⟨ne, q⟩
    · cases z0
    · exact r.fz j e q
  · rcases put_at q with ⟨ej, z0⟩ | ⟨ne, q⟩
    · subst ej; cases z0; exact ⟨a, h1, h2, h3, c⟩
    · obtain ⟨b, q1, q2, q3, q4⟩ := r.ow j e q
      have hb : b ≠ a := fun z => ne (r.ap j i e d a q h (z ▸ q1) h1)
      exact ⟨b, q1, q2, q3, q4.sub (Same.refl G) (upd_ne hb)⟩
  · have d1 : ∃ e', ρ.sl[j]? = some (.ow e') := by
      rcases put_at q1 with ⟨ej, z0⟩ | ⟨_, q1⟩
      · subst ej; exact ⟨d, h⟩
      · exact ⟨e, q1⟩
    have d2 : ∃ e', ρ.sl[k]? = some (.ow e') := by
      rcases put_at q2 with ⟨ej, z0⟩ | ⟨_, q2⟩
      · subst ej; exact ⟨d, h⟩
      · exact ⟨f, q2⟩
    obtain ⟨e1, d1⟩ := d1
    obtain ⟨e2, d2⟩ := d2
    exact r.ap j k e1 e2 b d1 d2 s1 s2
  · have q := r.bg b e
    have hb : b.1 ≠ a := fun z => r.bo b i d e h (by rw [z]; exact h1)
    refine q.sub (Same.refl G) q.2.1 (upd_ne hb) (fun _ _ hq => hq) (fun x ps hq => ?_) fun c' q hq => ?_
    · by_cases z : x = a
      · subst z; exact absurd hq (h4.notbl ps)
      · rw [upd_ne z]; exact hq
    · by_cases z : c' = a
      · subst z; exact absurd hq (h4.nocode q)
      · rw [upd_ne z]; exact hq
  · rcases put_at q2 with ⟨ej, z0⟩ | ⟨_, q2⟩
    · subst ej; exact r.bo b j d q1 h
    · exact r.bo b j e q1 q2

/-- a new thing is put aside while something else goes on -/
def Fr.aside (F : Fr) (a : Addr) (o : HO) : Fr := { F with P := fun b => b = a ∨ F.P b, H0 := upd F.H0 a o }
theorem Rl.aside {a : Addr} {d : D} {o : HO} (r : Rl F G H σ ρ) (n : Nw F G H σ ρ a d) (ho : H a = some o) : Rl (F.aside a o) G H σ ρ := by
  refine ⟨r.sub, fun b q => ?_, r.len, r.fz, fun i e q => ?_, r.ap, r.bg, r.bo⟩
  · show G b = none ∧ H b = upd F.H0 a o b ∧ H b ≠ none ∧ nbag ρ.bag b ∧ ntb ρ.bag H b
    by_cases hb : b = a
    · subst hb
      rw [upd_same]
      exact ⟨n.gn, ho, by rw [ho]; exact nofun, n.bg, fun _ _ => n.con.notbl⟩
    · rw [upd_ne hb]
      exact r.fr b (q.resolve_left hb)
  · obtain ⟨b, q1, q2, q3, q4⟩ := r.ow i e q
    refine ⟨b, q1, fun z => ?_, q3, q4⟩
    rcases z with z | z
    · exact n.sl i e q (z ▸ q1)
    · exact q2 z
theorem Rl.unaside {G' H' : Hp} {σ' : L2.St} {ρ' : Sta} {a : Addr} {d : D} {o : HO} (r : Rl F G H σ ρ) (n : Nw F G H σ ρ a d) (ho : H a = some o) (g : Same G G') (r' : Rl (F.aside a o) G' H' σ' ρ') : Rl F G' H' σ' ρ' ∧ Nw F G' H' σ' ρ' a d := by
  have old : ∀ b, F.P b → b ≠ a := fun b q z => n.np (z ▸ q)
  obtain ⟨q1, q2, q3, q4, q5⟩ := r'.fr a (.inl rfl)
  have q2' : H' a = some o := by
    have : (F.aside a o).H0 a = some o := upd_same
    rw [q2, this]
  refine ⟨⟨r'.sub, fun b q => ?_, r'.len, r'.fz, fun i e q => ?_, r'.ap, r'.bg, r'.bo⟩, ⟨n.np, q1, n.con.sub g (q2'.trans ho.symm), fun i e q z => ?_, q4⟩⟩
  · obtain ⟨p1, p2, p3, p4⟩ := r'.fr b (.inr q)
    have e : (F.aside a o).H0 b = F.H0 b := upd_ne (old b q)
    exact ⟨p1, p2.trans e, p3, p4⟩
  · obtain ⟨b, p1, p2, p3, p4⟩ := r'.ow i e q
    exact ⟨b, p1, fun z => p2 (.inr z), p3, p4⟩
  · obtain ⟨b, p1, p2, p3, p4⟩ := r'.ow i e q
    rw [p1] at z
    cases z
    exact p2 (.inl rfl)
end
end DI

set_option Elab.async false
set_option linter.all false
set_option autoImplicit false
set_option maxRecDepth 100000
set_option maxHeartbeats 1000000
/-! DI1m: what is asked grows with what is wanted. -/
namespace DI
open PySem PySem.Spec PyProof.Rows L2
section
variable {Q Q' : R → Prop}
theorem semEq_mono {n : Bool} {a b : D} (f : ∀ r, Q r → Q' r) (h : semEq n a b Q) : semEq n a b Q' := h.imp (fun h => ⟨h.1, f _ h.2⟩) fun h => ⟨h.1, h.2.1, h.2.2.1, f _ h.2.2.2⟩
theorem semIn_mono {W : Program × World} {n : Bool} {a b : D} (f : ∀ r, Q r → Q' r) (h : semIn W n a b Q) : semIn W n a b Q' := by
  unfold semIn at h ⊢
  split at h
  · exact ⟨h.1, f _ h.2⟩
  · exact ⟨h.1, f _ h.2⟩
  · split at h
    · exact f _ h
    · exact h
  · split at h
    · obtain ⟨h1, k, h2, h3, h4⟩ := h; exact ⟨h1, k, h2, h3, f _ h4⟩
    · exact h
  · exact h
theorem semCmp_mono {p : Int → Int → Bool} {a b : D} (f : ∀ r, Q r → Q' r) (h : semCmp p a b Q) : semCmp p a b Q' := by
  unfold semCmp at h ⊢
  split at h
  · exact f _ h
  · exact h
theorem sem2_mono {W : Program × World} {o : O2} {a b : D} (f : ∀ r, Q r → Q' r) (h : sem2 W o a b Q) : sem2 W o a b Q' := by
  cases o with
  | add =>
    simp only [sem2] at h ⊢
    split at h
    · exact f _ h
    · exact ⟨h.1, f _ h.2⟩
    · exact ⟨h.1, f _ h.2⟩
    · exact ⟨h.1, f _ h.2⟩
    · exact h
  | sub =>
    simp only [sem2] at h ⊢
    split at h
    · exact f _ h
    · exact h
  | mul =>
    simp only [sem2] at h ⊢
    split at h
    · exact ⟨h.1, f _ h.2⟩
    · exact ⟨h.1, h.2.1, h.2.2.1, f _ h.2.2.2⟩
    · exact h
  | mod =>
    simp only [sem2] at h ⊢
    split at h
    · exact ⟨h.1, f _ h.2⟩
    · exact h
  | fdiv =>
    simp only [sem2] at h ⊢
    split at h
    · exact ⟨h.1, f _ h.2⟩
    · exact h
  | pow =>
    simp only [sem2] at h ⊢
    split at h
    · exact ⟨h.1, f _ h.2⟩
    · exact h
  | eq => exact semEq_mono f h
  | ne => exact semEq_mono f h
  | lt => exact semCmp_mono f h
  | le => exact semCmp_mono f h
  | gt => exact semCmp_mono f h
  | ge => exact semCmp_mono f h
  | isin => exact semIn_mono f h
  | notin => exact semIn_mono f h
  | is =>
    simp only [sem2] at h ⊢
    split at h
    · exact f _ h
    · exact ⟨h.1, f _ h.2⟩
    · exact h
  | isnot =>
    simp only [sem2] at h ⊢
    split at h
    · exact f _ h
    · exact ⟨h.1, f _ h.2⟩
    · exact h
  | ix =>
    simp only [sem2] at h ⊢
    split at h
    · obtain ⟨d, e, q⟩ := h; exact ⟨d, e, f _ q⟩
    · obtain ⟨d, e, q⟩ := h; exact ⟨d, e, f _ q⟩
    · obtain ⟨d, e, q⟩ := h; exact ⟨d, e, f _ q⟩
    · obtain ⟨d, e, q⟩ := h; exact ⟨d, e, f _ q⟩
    · obtain ⟨d, e, q⟩ := h; exact ⟨d, e, f _ q⟩
    · obtain ⟨l, d, e, q⟩ := h; exact ⟨l, d, e, f _ q⟩
    · obtain ⟨h1, k, d, h2, h3, h4, q⟩ := h; exact ⟨h1, k, d, h2, h3, h4, f _ q⟩
    · exact h
theorem semN_mono {m : N1} {d : D} {ds : List D} (f : ∀ r, Q r → Q' r) (h : semN m d ds Q) : semN m d ds Q' := by
  cases m with
  | split =>
    simp only [semN] at h ⊢
    split at h
    · exact ⟨h.1, h.2.1, f _ h.2.2⟩
    · exact h
theorem sem1_mono {o : O1} {a : D} (f : ∀ r, Q r → Q' r) (h : sem1 o a Q) : sem1 o a Q' := by
  cases o with
  | neg =>
    simp only [sem1] at h ⊢
    split at h
    · exact f _ h
    · exact h
theorem semB_mono {b : B1} {ds : List D} (f : ∀ r, Q r → Q' r) (h : semB b ds Q) : semB b ds Q' := by
  cases b with
  | len =>
    simp only [semB] at h ⊢
    split at h
    · exact f _ h
    · exact f _ h
    · exact ⟨h.1, f _ h.2⟩
    · exact f _ h
    · exact f _ h
    · exact h
  | abs =>
    simp only [semB] at h ⊢
    split at h
    · exact f _ h
    · exact h
  | int =>
    simp only [semB] at h ⊢
    split at h
    · exact f _ h
    · exact f _ h
    · exact h
  | str =>
    simp only [semB] at h ⊢
    split at h
    · exact ⟨h.1, f _ h.2⟩
    · exact h
  | list =>
    simp only [semB] at h ⊢
    split at h
    · exact f _ h
    · exact f _ h
    · exact h
  | tuple =>
    simp only [semB] at h ⊢
    split at h
    · exact f _ h
    · exact f _ h
    · exact h
  | sorted =>
    simp only [semB] at h ⊢
    split at h
    · rcases h with ⟨ss, e, l, q⟩ | ⟨ss, e, l, q⟩ | ⟨s1, s2, s3⟩
      · exact .inl ⟨ss, e, l, fun ys p z => f _ (q ys p z)⟩
      · exact .inr (.inl ⟨ss, e, l, fun ys p z => f _ (q ys p z)⟩)
      · exact .inr (.inr ⟨s1, s2, f _ s3⟩)
    · obtain ⟨ss, e, l, q⟩ := h; exact ⟨ss, e, l, fun ys p z => f _ (q ys p z)⟩
    · exact h
  | repr =>
    simp only [semB] at h ⊢
    split at h
    · exact ⟨h.1, f _ h.2⟩
    · exact h
  | all =>
    simp only [semB] at h ⊢
    split at h
    · obtain ⟨bs, e, q⟩ := h; exact ⟨bs, e, f _ q⟩
    · exact h
  | any =>
    simp only [semB] at h ⊢
    split at h
    · obtain ⟨bs, e, q⟩ := h; exact ⟨bs, e, f _ q⟩
    · exact h
  | sum =>
    simp only [semB] at h ⊢
    split at h
    · obtain ⟨bs, e, q⟩ := h; exact ⟨bs, e, f _ q⟩
    · exact h
  | isi =>
    simp only [semB] at h ⊢
    split at h
    · obtain ⟨bs, e, q⟩ := h; exact ⟨bs, e, f _ q⟩
    · obtain ⟨ns, b, e1, e0, e2, q⟩ := h; exact ⟨ns, b, e1, e0, e2, f _ q⟩
    · exact h
  | dict =>
    simp only [semB] at h ⊢
    split at h
    · obtain ⟨kvs, e, q⟩ := h; exact ⟨kvs, e, f _ q⟩
    · exact f _ h
    · exact h
  | min =>
    simp only [semB] at h ⊢
    split at h
    · exact f _ h
    · obtain ⟨ns, h1, h2, h3⟩ := h; exact ⟨ns, h1, h2, fun m q1 q2 => f _ (h3 m q1 q2)⟩
    · exact h
  | max =>
    simp only [semB] at h ⊢
    split at h
    · exact f _ h
    · exact h
end
theorem semM_mono {m : M2} {d : D} {ds : List D} {Q Q' : D → D → Prop} (f : ∀ x y, Q x y → Q' x y) (h : semM m d ds Q) : semM m d ds Q' := by
  cases m with
  | append =>
    simp only [semM] at h ⊢
    split at h
    · exact ⟨h.1, f _ _ h.2⟩
    · exact h
  | extend =>
    simp only [semM] at h ⊢
    split at h
    · exact ⟨h.1, f _ _ h.2⟩
    · exact h
  | pop =>
    simp only [semM] at h ⊢
    split at h
    · obtain ⟨y, e, q⟩ := h; exact ⟨y, e, f _ _ q⟩
    · exact h
  | popAt =>
    simp only [semM] at h ⊢
    split at h
    · obtain ⟨h1, h2, k, y, e, e2, q⟩ := h; exact ⟨h1, h2, k, y, e, e2, f _ _ q⟩
    · exact h
  | insert =>
    simp only [semM] at h ⊢
    split at h
    · exact ⟨h.1, h.2.1, h.2.2.1, f _ _ h.2.2.2⟩
    · exact h
theorem keep_mono {r : R} {ρ : Sta} {Q Q' : D → Sta → Prop} (f : ∀ d ρ, Q d ρ → Q' d ρ) (h : keep r ρ Q) : keep r ρ Q' := by
  cases r with
  | fz d => exact f _ _ h
  | ow d => exact f _ _ h
  | al i =>
    simp only [keep] at h ⊢
    split at h
    · exact f _ _ h
    · exact h
theorem rd_mono {r : R} {ρ : Sta} {Q Q' : D → Prop} (f : ∀ d, Q d → Q' d) (h : rd ρ r Q) : rd ρ r Q' := by
  cases r with
  | fz d => exact f _ h
  | ow d => exact f _ h
  | al i =>
    simp only [rd] at h ⊢
    split at h
    · exact f _ h
    · exact h
theorem rdA_mono {ρ : Sta} : ∀ {rs : List R} {Q Q' : List D → Prop}, (∀ d, Q d → Q' d) → rdA ρ rs Q → rdA ρ rs Q'
  | [], _, _, f, h => f _ h
  | r :: rs, _, _, f, h => rd_mono (fun d q => rdA_mono (fun ds z => f _ z) q) h
theorem asgG_mono {g : CG} {d : D} {ρ : Sta} {Q Q' : Sta → Prop} (f : ∀ ρ, Q ρ → Q' ρ) (h : asgG g d ρ Q) : asgG g d ρ Q' := by
  cases g with
  | name i => exact f _ h
  | tup is =>
    simp only [asgG] at h ⊢
    split at h
    · obtain ⟨ρ', e, q⟩ := h; exact ⟨ρ', e, f _ q⟩
    · exact h
theorem dcompD_mono {s s' : D → Sta → (D → D → Sta → Prop) → Prop} (hs : ∀ d ρ k k', (∀ x y ρ, k x y ρ → k' x y ρ) → s d ρ k → s' d ρ k') :
    ∀ {ds : List D} {acc : List (NestedKey × D × D)} {ρ : Sta} {Q Q' : List (NestedKey × D × D) → Sta → Prop}, (∀ a ρ, Q a ρ → Q' a ρ) → dcompD s ds acc ρ Q → dcompD s' ds acc ρ Q'
  | [], acc, ρ, Q, Q', f, h => f _ _ h
  | d :: ds, acc, ρ, Q, Q', f, h => by
    refine ⟨h.1, hs d ρ _ _ (fun x y ρ' h => ?_) h.2⟩
    split at h
    · obtain ⟨n, h1, h2, h3⟩ := h
      exact ⟨n, h1, h2, dcompD_mono hs f h3⟩
    · exact h
theorem compD_mono {s s' : D → Sta → (Option D → Sta → Prop) → Prop} (hs : ∀ d ρ k k', (∀ o ρ, k o ρ → k' o ρ) → s d ρ k → s' d ρ k') :
    ∀ {ds acc : List D} {ρ : Sta} {Q Q' : List D → Sta → Prop}, (∀ a ρ, Q a ρ → Q' a ρ) → compD s ds acc ρ Q → compD s' ds acc ρ Q'
  | [], _, _, _, _, f, h => f _ _ h
  | d :: ds, acc, ρ, _, _, f, h => ⟨h.1, hs d ρ _ _ (fun o ρ' q => compD_mono hs f q) h.2⟩
structure En.Le (E E' : En) : Prop where
  nx : ∀ ρ, E.nx ρ → E'.nx ρ
  rt : ∀ r ρ, E.rt r ρ → E'.rt r ρ
  bk : ∀ ρ, E.bk ρ → E'.bk ρ
  ct : ∀ ρ, E.ct ρ → E'.ct ρ
  xc : ∀ d ρ, E.xc d ρ → E'.xc d ρ
theorem forD_mono {s : D → Sta → En → Prop} (hs : ∀ d ρ E E', E.Le E' → s d ρ E → s d ρ E') : ∀ {ds : List D} {ρ : Sta} {E E' : En}, E.Le E' → forD s ds ρ E → forD s ds ρ E'
  | [], _, _, _, f, h => f.nx _ h
  | d :: ds, ρ, _, _, f, h => by
    refine hs d ρ _ _ ?_ h
    exact ⟨fun ρ q => forD_mono hs f q, f.rt, f.nx, fun ρ q => forD_mono hs f q, f.xc⟩

def Tb.Mono (T : Tb) : Prop := (∀ k β ds (Q Q' : R → Prop), (∀ r, Q r → Q' r) → T.fn k β ds Q → T.fn k β ds Q') ∧ ∀ k β ds (Q Q' : R → Prop) (Z Z' : D → Prop), (∀ r, Q r → Q' r) → (∀ d, Z d → Z' d) → T.xfn k β ds Q Z → T.xfn k β ds Q' Z'

mutual
theorem evE_mono {T : Tb} (tm : T.Mono) : ∀ (c : CE) {ρ : Sta} {Q Q' : R → Sta → Prop}, (∀ r ρ, Q r ρ → Q' r ρ) → evE T c ρ Q → evE T c ρ Q'
  | .var i, ρ, _, _, f, h => by
    simp only [evE] at h ⊢
    split at h
    · exact f _ _ h
    · exact f _ _ h
    · exact h
  | .con d, _, _, _, f, h => f _ _ h
  | .op2 o a b, ρ, _, _, f, h => by
    simp only [evE] at h ⊢
    exact evE_mono tm a (fun r ρ1 h => evE_mono tm b (fun s ρ2 h => rd_mono (fun x h => rd_mono (fun y h => sem2_mono (fun z h => f _ _ h) h) h) h) h) h
  | .op1 o a, ρ, _, _, f, h => by
    simp only [evE] at h ⊢
    exact evE_mono tm a (fun r ρ1 h => rd_mono (fun x h => sem1_mono (fun z h => f _ _ h) h) h) h
  | .glo k, _, _, _, f, h => f _ _ h
  | .and a b, ρ, _, _, f, h => by
    simp only [evE] at h ⊢
    refine evE_mono tm a (fun r ρ1 h => ?_) h
    split at h
    · split at h
      · rw [if_pos (by assumption)]; exact evE_mono tm b f h
      · rw [if_neg (by assumption)]; exact f _ _ h
    · exact h
  | .or a b, ρ, _, _, f, h => by
    simp only [evE] at h ⊢
    refine evE_mono tm a (fun r ρ1 h => ?_) h
    split at h
    · split at h
      · rw [if_pos (by assumption)]; exact f _ _ h
      · rw [if_neg (by assumption)]; exact evE_mono tm b f h
    · exact h
  | .not a, ρ, _, _, f, h => by
    simp only [evE] at h ⊢
    refine evE_mono tm a (fun r ρ1 h => ?_) h
    split at h
    · exact f _ _ h
    · exact h
  | .ifx c a b, ρ, _, _, f, h => by
    simp only [evE] at h ⊢
    refine evT_mono tm c (fun k ρ1 h => ?_) h
    cases k with
    | true => exact evE_mono tm a f h
    | false => exact evE_mono tm b f h
  | .lst es, ρ, _, _, f, h => by
    simp only [evE] at h ⊢
    exact evK_mono tm es (fun ds ρ1 h => ⟨h.1, f _ _ h.2⟩) h
  | .tup es, ρ, _, _, f, h => by
    simp only [evE] at h ⊢
    exact evK_mono tm es (fun ds ρ1 h => ⟨h.1, f _ _ h.2⟩) h
  | .slc a lo hi, ρ, _, _, f, h => by
    simp only [evE] at h ⊢
    refine evE_mono tm a (fun r ρ1 h => evO_mono tm lo (fun l ρ2 h => evO_mono tm hi (fun u ρ3 h => rd_mono (fun x h => ?_) h) h) h) h
    split at h
    · exact f _ _ h
    · exact f _ _ h
    · exact f _ _ h
    · exact ⟨h.1, f _ _ h.2⟩
    · exact h
  | .meth m a e, ρ, _, _, f, h => by
    simp only [evE] at h ⊢
    refine evE_mono tm a (fun r ρ1 h => ?_) h
    split at h
    · exact evE_mono tm e (fun s ρ2 h => rd_mono (fun y h => semN_mono (fun z h => f _ _ h) h) h) h
    · exact h
  | .sset e, ρ, _, _, f, h => by
    simp only [evE] at h ⊢
    refine evE_mono tm e (fun r ρ1 h => rd_mono (fun y h => ?_) h) h
    split at h
    · obtain ⟨ns, h1, h2, h3⟩ := h; exact ⟨ns, h1, h2, fun ys q1 q2 => f _ _ (h3 ys q1 q2)⟩
    · exact h
  | .dn1 k v, ρ, _, _, f, h => by
    simp only [evE] at h ⊢
    refine evE_mono tm k (fun r ρ1 h => keep_mono (fun x ρ2 h => evE_mono tm v (fun s ρ3 h => keep_mono (fun y ρ4 h => ?_) h) h) h) h
    split at h
    · obtain ⟨n, h1, h2, h3⟩ := h; exact ⟨n, h1, h2, f _ _ h3⟩
    · exact h
  | .tyc n, ρ, _, _, f, h => f _ _ h
  | .chn o o' a b c, ρ, _, _, f, h => by
    simp only [evE] at h ⊢
    refine evE_mono tm a (fun r ρ1 h => evE_mono tm b (fun s ρ2 h => ?_) h) h
    split at h
    · obtain ⟨k, h1, h2⟩ := h
      refine ⟨k, h1, ?_⟩
      cases k with
      | true =>
        rw [if_pos rfl] at h2 ⊢
        refine evE_mono tm c (fun t ρ3 h => ?_) h2
        split at h
        · obtain ⟨k', h3, h4⟩ := h; exact ⟨k', h3, f _ _ h4⟩
        · exact h
      | false =>
        rw [if_neg (by decide)] at h2 ⊢
        exact f _ _ h2
    · exact h
  | .dk0, ρ, _, _, f, h => f _ _ h
  | .dk1 x v, ρ, _, _, f, h => by
    simp only [evE] at h ⊢
    exact evE_mono tm v (fun r ρ1 h => keep_mono (fun x ρ2 h => f _ _ h) h) h
  | .upper a, ρ, _, _, f, h => by
    simp only [evE] at h ⊢
    refine evE_mono tm a (fun r ρ1 h => rd_mono (fun y h => ?_) h) h
    split at h
    · exact ⟨h.1, f _ _ h.2⟩
    · exact h
  | .cnt a e, ρ, _, _, f, h => by
    simp only [evE] at h ⊢
    refine evE_mono tm a (fun r ρ1 h => ⟨h.1, evE_mono tm e (fun s ρ2 h => rd_mono (fun x h => rd_mono (fun y h => ?_) h) h) h.2⟩) h
    split at h
    · obtain ⟨ss, h1, h2⟩ := h; exact ⟨ss, h1, f _ _ h2⟩
    · exact h
  | .join a e, ρ, _, _, f, h => by
    simp only [evE] at h ⊢
    refine evE_mono tm a (fun r ρ1 h => ?_) h
    split at h
    · refine evE_mono tm e (fun s ρ2 h => rd_mono (fun y h => ?_) h) h
      split at h
      · obtain ⟨ss, h1, h2, h3⟩ := h; exact ⟨ss, h1, h2, f _ _ h3⟩
      · exact h
    · exact h
  | .dget a e, ρ, _, _, f, h => by
    simp only [evE] at h ⊢
    refine evE_mono tm a (fun r ρ1 h => ⟨h.1, evE_mono tm e (fun s ρ2 h => rd_mono (fun x h => rd_mono (fun y h => ?_) h) h) h.2⟩) h
    split at h
    · exact f _ _ h
    · exact h
  | .dgetd a e z, ρ, _, _, f, h => by
    simp only [evE] at h ⊢
    refine evE_mono tm a (fun r ρ1 h => ⟨h.1, evE_mono tm e (fun s ρ2 h => ?_) h.2⟩) h
    split at h
    · refine evE_mono tm z (fun t ρ3 h => keep_mono (fun w ρ4 h => rd_mono (fun x h => ?_) h) h) h
      split at h
      · exact f _ _ h
      · exact h
    · exact h
  | .gix k e, ρ, _, _, f, h => by
    simp only [evE] at h ⊢
    refine evE_mono tm e (fun r ρ1 h => ?_) h
    split at h
    · obtain ⟨y, h1, h2⟩ := h; exact ⟨y, h1, f _ _ h2⟩
    · exact h
  | .dn0, ρ, _, _, f, h => f _ _ h
  | .callS k es, ρ, _, _, f, h => by
    simp only [evE] at h ⊢
    refine evA_mono tm es (fun rs ρ1 h => rdA_mono (fun ds h => tm.1 k _ _ _ _ (fun z h => ?_) h) h) h
    cases z with
    | fz d => exact ⟨h.1, f _ _ h.2⟩
    | ow d => exact ⟨h.1, f _ _ h.2⟩
    | al i => trivial
  | .sortn e, ρ, _, _, f, h => by
    simp only [evE] at h ⊢
    refine evE_mono tm e (fun r ρ1 h => rd_mono (fun x h => ?_) h) h
    split at h
    · exact ⟨h.1, h.2.1, h.2.2.1, f _ _ h.2.2.2⟩
    · exact h
  | .dcomp own g it a e, ρ, _, _, f, h => by
    simp only [evE] at h ⊢
    refine evI_mono tm it (fun ds ρ1 h => dcompD_mono (fun d ρ2 k k' hk h => asgG_mono (fun ρ3 h => evE_mono tm a (fun r ρ4 h => keep_mono (fun x ρ5 h => evE_mono tm e (fun s ρ6 h => keep_mono (fun y ρ7 h => hk _ _ _ h) h) h) h) h) h) (fun a ρ h => f _ _ h) h) h
  | .cpy j i, ρ, _, _, f, h => by
    simp only [evE] at h ⊢
    split at h
    · exact ⟨h.1, h.2.1, f _ _ h.2.2⟩
    · exact h
  | .dks fz xs es, ρ, _, _, f, h => by
    simp only [evE] at h ⊢
    refine evK_mono tm es (fun ds ρ1 h => ⟨h.1, h.2.1, ?_⟩) h
    have h := h.2.2
    cases fz with
    | true => rw [if_pos rfl] at h ⊢; exact fun a => f _ _ (h a)
    | false => rw [if_neg (by decide)] at h ⊢; exact f _ _ h
  | .items i, ρ, _, _, f, h => by
    simp only [evE] at h ⊢
    split at h
    · obtain ⟨xs, h1, h2⟩ := h; exact ⟨xs, h1, f _ _ h2⟩
    · exact h
  | .heard k es, ρ, _, _, f, h => by
    simp only [evE] at h ⊢
    refine ⟨h.1, evA_mono tm es (fun rs ρ1 h => rdA_mono (fun ds h => tm.2 k _ _ _ _ _ _ (fun z h => ?_) (fun d h => f _ _ h) h) h) h.2⟩
    cases z with
    | fz d => exact f _ _ h
    | ow d => exact f _ _ h
    | al i => trivial
  | .compk own g i c e, ρ, _, _, f, h => by
    simp only [evE] at h ⊢
    split at h
    · refine compD_mono (fun d ρ2 k k' hk h => asgG_mono (fun ρ3 h => evC_mono tm c (fun b ρ4 h => ?_) h) h) (fun a ρ h => f _ _ h) h
      cases b with
      | true => exact evE_mono tm e (fun r ρ5 h => keep_mono (fun x ρ6 h => hk _ _ h) h) h
      | false => exact hk _ _ h
    · exact h
  | .bi b es, ρ, _, _, f, h => by
    simp only [evE] at h ⊢
    exact evA_mono tm es (fun rs ρ1 h => rdA_mono (fun ds h => semB_mono (fun z h => f _ _ h) h) h) h
  | .mut m i es, ρ, _, _, f, h => by
    simp only [evE] at h ⊢
    refine ⟨h.1, evK_mono tm es (fun ds ρ1 h => ?_) h.2⟩
    split at h
    · exact semM_mono (fun x y h => f _ _ h) h
    · exact h
  | .call k es, ρ, _, _, f, h => by
    simp only [evE] at h ⊢
    refine evA_mono tm es (fun rs ρ1 h => rdA_mono (fun ds h => tm.1 k _ ds _ _ (fun z h => ?_) h) h) h
    cases z with
    | fz d =>
      simp only at h ⊢
      split at h
      · rw [if_pos (by assumption)]; exact f _ _ h
      · rw [if_neg (by assumption)]; exact f _ _ h
    | ow d => exact f _ _ h
    | al i => trivial
  | .comp own g it c e, ρ, _, _, f, h => by
    simp only [evE] at h ⊢
    refine evI_mono tm it (fun ds ρ1 h => compD_mono (fun d ρ2 k k' hk h => asgG_mono (fun ρ3 h => evC_mono tm c (fun b ρ4 h => ?_) h) h) (fun a ρ h => f _ _ h) h) h
    cases b with
    | true => exact evE_mono tm e (fun r ρ5 h => keep_mono (fun x ρ6 h => hk _ _ h) h) h
    | false => exact hk _ _ h
theorem evA_mono {T : Tb} (tm : T.Mono) : ∀ (c : CA) {ρ : Sta} {Q Q' : List R → Sta → Prop}, (∀ r ρ, Q r ρ → Q' r ρ) → evA T c ρ Q → evA T c ρ Q'
  | .nil, _, _, _, f, h => f _ _ h
  | .cons e es, ρ, _, _, f, h => by
    simp only [evA] at h ⊢
    exact evE_mono tm e (fun r ρ1 h => evA_mono tm es (fun rs ρ2 h => f _ _ h) h) h
  | .star e es, ρ, _, _, f, h => by
    simp only [evA] at h
theorem evK_mono {T : Tb} (tm : T.Mono) : ∀ (c : CA) {ρ : Sta} {Q Q' : List D → Sta → Prop}, (∀ r ρ, Q r ρ → Q' r ρ) → evK T c ρ Q → evK T c ρ Q'
  | .nil, _, _, _, f, h => f _ _ h
  | .cons e es, ρ, _, _, f, h => by
    simp only [evK] at h ⊢
    exact evE_mono tm e (fun r ρ1 h => keep_mono (fun d ρ2 h => evK_mono tm es (fun rs ρ2 h => f _ _ h) h) h) h
  | .star e es, ρ, _, _, f, h => by
    simp only [evK] at h ⊢
    exact evE_mono tm e (fun r ρ1 h => keep_mono (fun d ρ2 h => h.elim fun xs h => ⟨xs, h.1, evK_mono tm es (fun rs ρ2 h => f _ _ h) h.2⟩) h) h
theorem evO_mono {T : Tb} (tm : T.Mono) : ∀ (c : CO) {ρ : Sta} {Q Q' : Option Int → Sta → Prop}, (∀ r ρ, Q r ρ → Q' r ρ) → evO T c ρ Q → evO T c ρ Q'
  | .none, _, _, _, f, h => f _ _ h
  | .some e, ρ, _, _, f, h => by
    simp only [evO] at h ⊢
    refine evE_mono tm e (fun r ρ1 h => ?_) h
    split at h
    · exact f _ _ h
    · exact h
theorem evC_mono {T : Tb} (tm : T.Mono) : ∀ (c : CC) {ρ : Sta} {Q Q' : Bool → Sta → Prop}, (∀ r ρ, Q r ρ → Q' r ρ) → evC T c ρ Q → evC T c ρ Q'
  | .none, _, _, _, f, h => f _ _ h
  | .some c, ρ, _, _, f, h => by
    simp only [evC] at h ⊢
    exact evT_mono tm c f h
theorem evT_mono {T : Tb} (tm : T.Mono) : ∀ (c : CT) {ρ : Sta} {Q Q' : Bool → Sta → Prop}, (∀ r ρ, Q r ρ → Q' r ρ) → evT T c ρ Q → evT T c ρ Q'
  | .chn o o' a b c, ρ, _, _, f, h => by
    simp only [evT] at h ⊢
    refine evE_mono tm a (fun r ρ1 h => evE_mono tm b (fun s ρ2 h => ?_) h) h
    split at h
    · obtain ⟨k, h1, h2⟩ := h
      refine ⟨k, h1, ?_⟩
      cases k with
      | true =>
        rw [if_pos rfl] at h2 ⊢
        refine evE_mono tm c (fun t ρ3 h => ?_) h2
        split at h
        · obtain ⟨k', h3, h4⟩ := h; exact ⟨k', h3, f _ _ h4⟩
        · exact h
      | false =>
        rw [if_neg (by decide)] at h2 ⊢
        exact f _ _ h2
    · exact h
  | .gin neg k e, ρ, _, _, f, h => by
    simp only [evT] at h ⊢
    refine evE_mono tm e (fun r ρ1 h => ?_) h
    split at h
    · exact f _ _ h
    · exact f _ _ h
    · exact h
  | .cmp o a b, ρ, _, _, f, h => by
    simp only [evT] at h ⊢
    refine evE_mono tm a (fun r ρ1 h => evE_mono tm b (fun s ρ2 h => rd_mono (fun x h => rd_mono (fun y h => sem2_mono (fun z h => ?_) h) h) h) h) h
    split at h
    · exact f _ _ h
    · exact h
  | .and a b, ρ, _, _, f, h => by
    simp only [evT] at h ⊢
    refine evT_mono tm a (fun k ρ1 h => ?_) h
    cases k with
    | true => exact evT_mono tm b f h
    | false => exact f _ _ h
  | .or a b, ρ, _, _, f, h => by
    simp only [evT] at h ⊢
    refine evT_mono tm a (fun k ρ1 h => ?_) h
    cases k with
    | true => exact f _ _ h
    | false => exact evT_mono tm b f h
  | .not a, ρ, _, _, f, h => by
    simp only [evT] at h ⊢
    exact evT_mono tm a (fun k ρ1 h => f _ _ h) h
  | .val e, ρ, _, _, f, h => by
    simp only [evT] at h ⊢
    refine evE_mono tm e (fun r ρ1 h => rd_mono (fun d h => ?_) h) h
    obtain ⟨k, h1, h2⟩ := h
    exact ⟨k, h1, f _ _ h2⟩
theorem evI_mono {T : Tb} (tm : T.Mono) : ∀ (c : CI) {ρ : Sta} {Q Q' : List D → Sta → Prop}, (∀ r ρ, Q r ρ → Q' r ρ) → evI T c ρ Q → evI T c ρ Q'
  | .seq e, ρ, _, _, f, h => by
    simp only [evI] at h ⊢
    refine evE_mono tm e (fun r ρ1 h => keep_mono (fun d ρ2 h => ?_) h) h
    split at h
    · exact f _ _ h
    · exact f _ _ h
    · exact f _ _ h
    · exact h
  | .range es, ρ, _, _, f, h => by
    simp only [evI] at h ⊢
    refine evA_mono tm es (fun r ρ1 h => ?_) h
    split at h
    · exact ⟨h.1, h.2.1, f _ _ h.2.2⟩
    · exact ⟨h.1, f _ _ h.2⟩
    · obtain ⟨n, h1, h2⟩ := h; exact ⟨n, h1, f _ _ h2⟩
    · exact h
  | .enum e, ρ, _, _, f, h => by
    simp only [evI] at h ⊢
    refine evE_mono tm e (fun r ρ1 h => keep_mono (fun d ρ2 h => ?_) h) h
    split at h
    · exact f _ _ h
    · exact f _ _ h
    · exact h
  | .zip es, ρ, _, _, f, h => by
    simp only [evI] at h ⊢
    refine evK_mono tm es (fun ds ρ1 h => ?_) h
    split at h
    · obtain ⟨xs, ys, h1, h2, h3⟩ := h; exact ⟨xs, ys, h1, h2, f _ _ h3⟩
    · exact h
end
theorem whileD_mono {c : Sta → (Bool → Sta → Prop) → Prop} {b : Sta → En → Prop} (hc : ∀ ρ k k', (∀ o ρ, k o ρ → k' o ρ) → c ρ k → c ρ k') (hb : ∀ ρ E E', E.Le E' → b ρ E → b ρ E') {ρ : Sta} {E E' : En} (f : E.Le E') (h : whileD c b ρ E) : whileD c b ρ E' := by
  obtain ⟨I, h0, h1⟩ := h
  refine ⟨I, h0, fun m ρ hI => hc ρ _ _ (fun k ρ' h => ?_) (h1 m ρ hI)⟩
  cases k with
  | true =>
    refine hb _ _ _ ?_ h
    exact ⟨fun _ q => q, f.rt, f.nx, fun _ q => q, f.xc⟩
  | false => exact f.nx _ h
mutual
theorem evS_mono {T : Tb} (tm : T.Mono) : ∀ (c : CS) {ρ : Sta} {E E' : En}, E.Le E' → evS T c ρ E → evS T c ρ E'
  | .asg g e, ρ, _, _, f, h => by
    simp only [evS] at h ⊢
    refine evE_mono tm e (fun r ρ1 h => ?_) h
    split at h
    · exact f.nx _ h
    · exact f.nx _ h
    · exact keep_mono (fun d ρ h => asgG_mono f.nx h) h
  | .par i j a b, ρ, _, _, f, h => by
    simp only [evS] at h ⊢
    refine evE_mono tm a (fun r ρ1 h => evE_mono tm b (fun s ρ2 h => ?_) h) h
    split at h
    · exact f.nx _ h
    · exact f.nx _ h
    · exact f.nx _ h
    · exact f.nx _ h
    · exact h
  | .sub i k e, ρ, _, _, f, h => by
    simp only [evS] at h ⊢
    refine evE_mono tm e (fun r ρ1 h => keep_mono (fun d ρ2 h => ⟨h.1, evE_mono tm k (fun s ρ3 h => ?_) h.2⟩) h) h
    split at h
    · obtain ⟨j, h1, h2⟩ := h; exact ⟨j, h1, f.nx _ h2⟩
    · exact h
  | .augS i k e, ρ, _, _, f, h => by
    simp only [evS] at h ⊢
    refine ⟨h.1, evE_mono tm k (fun r ρ1 h => ?_) h.2⟩
    split at h
    · obtain ⟨j, x, h1, h2, h3⟩ := h
      refine ⟨j, x, h1, h2, evE_mono tm e (fun s ρ2 h => ?_) h3⟩
      split at h
      · exact ⟨h.1, f.nx _ h.2⟩
      · exact h
    · exact h
  | .dset i k e, ρ, _, _, f, h => by
    simp only [evS] at h ⊢
    refine evE_mono tm e (fun r ρ1 h => keep_mono (fun d ρ2 h => ⟨h.1, evE_mono tm k (fun s ρ3 h => ?_) h.2⟩) h) h
    split at h
    · obtain ⟨h0, h1, n, h2, h3, h4⟩ := h; exact ⟨h0, h1, n, h2, h3, f.nx _ h4⟩
    · exact ⟨h.1, f.nx _ h.2⟩
    · exact h
  | .aug i o e, ρ, _, _, f, h => by
    simp only [evS] at h ⊢
    refine ⟨h.1, evE_mono tm e (fun r ρ1 h => ?_) h.2⟩
    split at h
    · split at h
      · exact f.nx _ h
      · exact f.nx _ h
      · exact h
    · exact h
  | .expr e, ρ, _, _, f, h => by
    simp only [evS] at h ⊢
    exact evE_mono tm e (fun r ρ1 h => f.nx _ h) h
  | .ret e, ρ, _, _, f, h => by
    simp only [evS] at h ⊢
    exact evE_mono tm e (fun r ρ1 h => f.rt _ _ h) h
  | .ite c a b, ρ, _, _, f, h => by
    simp only [evS] at h ⊢
    refine evT_mono tm c (fun k ρ1 h => ?_) h
    cases k with
    | true => exact evB_mono tm a f h
    | false => exact evB_mono tm b f h
  | .for_ g it b, ρ, _, _, f, h => by
    simp only [evS] at h ⊢
    refine evI_mono tm it (fun ds ρ1 h => ?_) h
    refine forD_mono ?_ f h
    intro d ρ E E' hl h
    exact asgG_mono (fun ρ3 h => evB_mono tm b hl h) h
  | .while_ c b, ρ, _, _, f, h => by
    simp only [evS] at h ⊢
    refine whileD_mono ?_ ?_ f h
    · intro ρ k k' hk h
      exact evT_mono tm c hk h
    · intro ρ E E' hl h
      exact evB_mono tm b hl h
  | .brk, _, _, _, f, h => f.bk _ h
  | .cont, _, _, _, f, h => f.ct _ h
  | .pass, _, _, _, f, h => f.nx _ h
  | .never, _, _, _, _, h => h
  | .raise e, ρ, _, _, f, h => by
    simp only [evS] at h ⊢
    exact evE_mono tm e (fun r ρ1 h => keep_mono (fun d ρ2 h => f.xc _ _ h) h) h
  | .xcall k es, ρ, _, _, f, h => by
    simp only [evS] at h ⊢
    exact evA_mono tm es (fun rs ρ1 h => rdA_mono (fun ds h => tm.2 k _ _ _ _ _ _ (fun z h => f.nx _ h) (fun d h => f.xc _ _ h) h) h) h
  | .sub2 i k l a b, ρ, _, _, f, h => by
    simp only [evS] at h ⊢
    refine evE_mono tm a (fun r ρ1 h => keep_mono (fun d ρ2 h => evE_mono tm b (fun r' ρ3 h => keep_mono (fun d' ρ4 h => ⟨h.1, evE_mono tm k (fun s ρ5 h => ?_) h.2⟩) h) h) h) h
    split at h
    · obtain ⟨j, h1, h2⟩ := h
      refine ⟨j, h1, evE_mono tm l (fun s' ρ6 h => ?_) h2⟩
      split at h
      · obtain ⟨j', h3, h4⟩ := h; exact ⟨j', h3, f.nx _ h4⟩
      · exact h
    · exact h
theorem evB_mono {T : Tb} (tm : T.Mono) : ∀ (c : List CS) {ρ : Sta} {E E' : En}, E.Le E' → evB T c ρ E → evB T c ρ E'
  | [], _, _, _, f, h => f.nx _ h
  | s :: ss, ρ, _, _, f, h => by
    simp only [evB] at h ⊢
    refine evS_mono tm s ?_ h
    exact ⟨fun ρ h => evB_mono tm ss f h, f.rt, f.bk, f.ct, f.xc⟩
end
end DI

set_option Elab.async false
set_option linter.all false
set_option autoImplicit false
set_option maxRecDepth 100000
set_option maxHeartbeats 1000000
/-! DI2a: the operators over data, led back to the hand layer's. -/
namespace DI
open PySem PySem.Spec PyProof.Rows L2

mutual
theorem Rp.dp {K : PySem.W.Frag} {H : Hp} : ∀ {v : V} {d : D}, Rp K H v d → d.ok = true → d.py.canLay0 = true → Dp K H v d.py
  | _, _, .non, _, _ => by rw [D.py]; exact .non
  | _, _, .bl b, _, _ => by rw [D.py]; exact .bl b
  | _, _, .int i, _, _ => by rw [D.py]; exact .int i
  | _, _, .str x, _, _ => by rw [D.py]; exact .str x
  | _, _, .lst h r, o, c => by
    rw [D.py] at c ⊢
    rw [D.ok] at o
    rw [PyData.canLay0] at c
    exact .lst (SqL.of h) (RpA.dp r o c)
  | _, _, .tup h r, o, c => by
    rw [D.py] at c ⊢
    rw [D.ok] at o
    rw [PyData.canLay0] at c
    exact .tup h (RpA.dp r o c)
  | _, _, .dct h r, o, c => by
    rw [D.py, PyData.canLay0] at c
    cases c
  | _, _, .dci h r, o, c => by
    rw [D.py, PyData.canLay0] at c
    cases c
  | _, _, .opq v, o, _ => by
    rw [D.ok] at o
    cases o
  | _, _, .scr _, o, _ => by
    rw [D.ok] at o
    cases o
  | _, _, .dcn _ _, o, _ => by
    rw [D.ok] at o
    cases o
theorem RpA.dp {K : PySem.W.Frag} {H : Hp} : ∀ {vs : List V} {ds : List D}, RpA K H vs ds → okA ds = true → PyData.canLayAll0 (pyA ds) = true → DpAll K H vs (pyA ds)
  | _, _, .nil, _, _ => by rw [pyA]; exact .nil
  | _, _, .cons h r, o, c => by
    rw [pyA] at c ⊢
    rw [okA, Bool.and_eq_true] at o
    rw [PyData.canLayAll0, Bool.and_eq_true] at c
    exact .cons (Rp.dp h o.1 c.1) (RpA.dp r o.2 c.2)
end

/-- an operand: its outer list or dict may be the body's own, the rest is not changed any more -/
def Ro (K : PySem.W.Frag) (G H : Hp) (v : V) : D → Prop
  | .lst ds => ∃ a vs, v = .ref a ∧ H a = some (.lst vs) ∧ RpA K G vs ds
  | .dct ds => ∃ a kvs, v = .ref a ∧ Rd H a (.dK kvs) ∧ RpK K G kvs ds
  | .dcn W ds => ∃ a xs, v = .ref a ∧ H a = some (DnO W a xs) ∧ RpN K G xs ds
  | d => Rp K G v d
section
variable {K : PySem.W.Frag} {G H : Hp} {v : V}
theorem Rp.ro {d : D} (h : Rp K G v d) (s : Same G H) : Ro K G H v d := by
  cases h with
  | lst h r => exact ⟨_, _, rfl, s _ _ h, r⟩
  | dct h r => exact ⟨_, _, rfl, same_rd s h, r⟩
  | dcn h r => exact ⟨_, _, rfl, s _ _ h, r⟩
  | scr h => exact .scr h
  | non => exact .non
  | bl b => exact .bl b
  | int i => exact .int i
  | str x => exact .str x
  | tup h r => exact .tup h r
  | dci h r => exact .dci h r
  | opq v => exact .opq v
theorem Con.ro {a : Addr} {d : D} (c : Con K G H a d) : Ro K G H (.ref a) d := by
  cases d with
  | lst ds => obtain ⟨vs, h1, h2⟩ := c; exact ⟨a, vs, rfl, h1, h2⟩
  | dct ds => obtain ⟨vs, h1, h2⟩ := c; exact ⟨a, vs, rfl, .inl h1, h2⟩
  | dcn W ds => obtain ⟨vs, h1, h2⟩ := c; exact ⟨a, vs, rfl, h1, h2⟩
  | _ => exact c.elim
theorem Ro.rp {d : D} (h : Ro K G H v d) (s : Same G H) : Rp K H v d := by
  cases d with
  | lst ds => obtain ⟨a, vs, rfl, h1, h2⟩ := h; exact .lst h1 (h2.mono s)
  | dct ds => obtain ⟨a, vs, rfl, h1, h2⟩ := h; exact .dct h1 (h2.mono s)
  | dcn W ds => obtain ⟨a, vs, rfl, h1, h2⟩ := h; exact .dcn h1 (h2.mono s)
  | scr b ns => exact Rp.mono s h
  | non => exact Rp.mono s h
  | bl b => exact Rp.mono s h
  | int b => exact Rp.mono s h
  | str b => exact Rp.mono s h
  | tup b => exact Rp.mono s h
  | dci a b => exact Rp.mono s h
  | opq b => exact Rp.mono s h
theorem Ro.int {i : Int} (h : Ro K G H v (.int i)) : v = .int i := by
  have h : Rp K G v (.int i) := h
  cases h; rfl
theorem Ro.str {i : Str} (h : Ro K G H v (.str i)) : v = .str i := by
  have h : Rp K G v (.str i) := h
  cases h; rfl
theorem Ro.bl {i : Bool} (h : Ro K G H v (.bl i)) : v = .bl i := by
  have h : Rp K G v (.bl i) := h
  cases h; rfl
theorem Ro.non (h : Ro K G H v .non) : v = .non := by
  have h : Rp K G v .non := h
  cases h; rfl
theorem Ro.tup {ds : List D} (h : Ro K G H v (.tup ds)) (s : Same G H) : ∃ a vs, v = .ref a ∧ SqT K H a vs ∧ RpA K G vs ds ∧ SqT K G a vs := by
  have h : Rp K G v (.tup ds) := h
  cases h with
  | tup q r => exact ⟨_, _, rfl, same_sqT s q, r, q⟩
/-- a plain flat value by its data -/
def pfV : D → V
  | .bl b => .bl b
  | .int i => .int i
  | .str x => .str x
  | _ => .non
theorem Ro.pf {d : D} (h : Ro K G H v d) (f : d.pf = true) : v = pfV d := by
  cases d with
  | non => exact h.non
  | bl b => exact h.bl
  | int i => exact h.int
  | str x => exact h.str
  | _ => cases f
theorem Rp.pf {d : D} (h : Rp K G v d) (f : d.pf = true) : v = pfV d := by
  cases h with
  | non => rfl
  | bl b => rfl
  | int i => rfl
  | str x => rfl
  | _ => cases f
theorem RpA.pf {vs : List V} {ds : List D} (h : RpA K G vs ds) (f : ds.all D.pf = true) : vs = ds.map pfV := by
  induction vs generalizing ds with
  | nil => cases h; rfl
  | cons v vs ih =>
    cases h with
    | cons a b =>
      rw [List.all_cons, Bool.and_eq_true] at f
      rw [List.map_cons, a.pf f.1, ih b f.2]
theorem pf_flat {d : D} (f : d.pf = true) : flatV (pfV d) = true := by cases d <;> first | rfl | cases f
theorem pf_flatA : ∀ {ds : List D}, ds.all D.pf = true → (ds.map pfV).all flatV = true
  | [], _ => rfl
  | d :: ds, f => by
    rw [List.all_cons, Bool.and_eq_true] at f
    rw [List.map_cons, List.all_cons, pf_flat f.1, pf_flatA f.2]
    rfl
theorem eqV_pf {a b : D} (fa : a.pf = true) (fb : b.pf = true) : eqV (pfV a) (pfV b) = eqD a b := by
  cases a with
  | non => cases b with
    | non => simp [eqD, D.py, pfV, eqV, PyData.eqv]
    | bl _ => simp [eqD, D.py, pfV, eqV, PyData.eqv]
    | int _ => simp [eqD, D.py, pfV, eqV, PyData.eqv]
    | str _ => simp [eqD, D.py, pfV, eqV, PyData.eqv]
    | _ => cases fb
  | bl _ => cases b with
    | non => simp [eqD, D.py, pfV, eqV, PyData.eqv]
    | bl _ => simp [eqD, D.py, pfV, eqV, PyData.eqv]
    | int _ => simp [eqD, D.py, pfV, eqV, PyData.eqv]
    | str _ => simp [eqD, D.py, pfV, eqV, PyData.eqv]
    | _ => cases fb
  | int _ => cases b with
    | non => simp [eqD, D.py, pfV, eqV, PyData.eqv]
    | bl _ => simp [eqD, D.py, pfV, eqV, PyData.eqv]
    | int _ => simp [eqD, D.py, pfV, eqV, PyData.eqv]
    | str _ => simp [eqD, D.py, pfV, eqV, PyData.eqv]
    | _ => cases fb
  | str _ => cases b with
    | non => simp [eqD, D.py, pfV, eqV, PyData.eqv]
    | bl _ => simp [eqD, D.py, pfV, eqV, PyData.eqv]
    | int _ => simp [eqD, D.py, pfV, eqV, PyData.eqv]
    | str _ => simp [eqD, D.py, pfV, eqV, PyData.eqv]
    | _ => cases fb
  | _ => cases fa
theorem inV_pf {a : D} (fa : a.pf = true) : ∀ {xs : List D}, xs.all D.pf = true → inV (pfV a) (xs.map pfV) = inD a xs
  | [], _ => rfl
  | x :: xs, f => by
    rw [List.all_cons, Bool.and_eq_true] at f
    have ih := inV_pf fa (xs := xs) f.2
    unfold inV inD at ih ⊢
    rw [List.map_cons, List.any_cons, List.any_cons, ih, eqV_pf f.1 fa]
theorem any_py (x : D) : ∀ xs : List D, ((pyA xs).any fun z => PyData.eqv z x.py) = inD x xs
  | [] => by rw [pyA]; rfl
  | y :: ys => by
    rw [pyA, List.any_cons, any_py x ys]
    rfl
theorem cmp_of {d : D} (h : d.cmp = true) : d.ok = true ∧ SeqAt.shaped d.py = true := Bool.and_eq_true_iff.mp h
theorem Ro.dp {d : D} (h : Ro K G H v d) (s : Same G H) (c : d.cmp = true) : Dp K H v d.py := (h.rp s).dp (cmp_of c).1 (SeqAt.canLay_of_shaped (cmp_of c).2)
theorem shaped_tup {xs : List PyData} : SeqAt.shaped (.tuple xs) = SeqAt.shaped (.list xs) := by
  unfold SeqAt.shaped
  rw [PyData.canLay0, PyData.canLay0, PyData.depth, PyData.depth]
end

/-! ### the readings of the operators -/
abbrev rEqs (K : PySem.W.Frag) : R2 := fun x y H Q => rEq x y H Q ∨ rEqD K x y H Q
abbrev rNes (K : PySem.W.Frag) : R2 := fun x y H Q => rNe x y H Q ∨ rNeD K x y H Q
theorem eq_pf {K : PySem.W.Frag} {H : Hp} {a b : D} {Q : VK} (fa : a.pf = true) (fb : b.pf = true) (q : Q (.bl (eqD a b)) H) : rEqs K (pfV a) (pfV b) H Q := by
  by_cases hs : scal (pfV a) (pfV b) = true
  · refine .inl ⟨hs, ?_⟩
    have e : decide (pfV a = pfV b) = eqD a b := by
      rw [← eqV_pf fa fb]
      cases a with
      | non => cases b with
        | non => rfl
        | bl _ => rfl
        | int _ => rfl
        | str _ => rfl
        | _ => cases fb
      | bl x => cases b with
        | non => rfl
        | bl y => exact dec_bl
        | int _ => cases hs
        | str _ => rfl
        | _ => cases fb
      | int x => cases b with
        | non => rfl
        | bl _ => cases hs
        | int y => exact dec_int
        | str _ => rfl
        | _ => cases fb
      | str x => cases b with
        | non => rfl
        | bl _ => rfl
        | int _ => rfl
        | str y => exact dec_str
        | _ => cases fb
      | _ => cases fa
    rw [e]
    exact q
  · refine .inr ⟨a.py, b.py, ?_⟩
    cases a with
    | non => cases b with
      | non => exact absurd rfl hs
      | bl _ => exact absurd rfl hs
      | int _ => exact absurd rfl hs
      | str _ => exact absurd rfl hs
      | _ => cases fb
    | bl x => cases b with
      | non => exact absurd rfl hs
      | bl y => exact absurd rfl hs
      | int _ => rw [D.py, D.py]; exact ⟨.bl _, .int _, rfl, rfl, by simpa [eqD, D.py] using q⟩
      | str _ => exact absurd rfl hs
      | _ => cases fb
    | int x => cases b with
      | non => exact absurd rfl hs
      | bl _ => rw [D.py, D.py]; exact ⟨.int _, .bl _, rfl, rfl, by simpa [eqD, D.py] using q⟩
      | int y => exact absurd rfl hs
      | str _ => exact absurd rfl hs
      | _ => cases fb
    | str x => cases b with
      | non => exact absurd rfl hs
      | bl _ => exact absurd rfl hs
      | int _ => exact absurd rfl hs
      | str y => exact absurd rfl hs
      | _ => cases fb
    | _ => cases fa
theorem ne_pf {K : PySem.W.Frag} {H : Hp} {a b : D} {Q : VK} (fa : a.pf = true) (fb : b.pf = true) (q : Q (.bl (!eqD a b)) H) : rNes K (pfV a) (pfV b) H Q := by
  have key : rEqs K (pfV a) (pfV b) H (fun v H' => ∀ k, v = .bl k → Q (.bl (!k)) H') := eq_pf fa fb fun k e => by cases e; exact q
  rcases key with ⟨h1, h2⟩ | ⟨d, e, h1, h2, h3, h4, h5⟩
  · exact .inl ⟨h1, h2 _ rfl⟩
  · exact .inr ⟨d, e, h1, h2, h3, h4, h5 _ rfl⟩
section
variable {X : Cx}
/-- in and not in: flat values in a list or a tuple, data in a list, in a tuple; a text in a text -/
def rInT (neg : Bool) (K : PySem.W.Frag) : R2 := fun x y H Q => ∃ d ds, Dp K H x d ∧ Dp K H y (.tuple ds) ∧ SeqAt.shaped d = true ∧ SeqAt.shaped (.tuple ds) = true ∧ Q (.bl (if neg then !ds.any fun z => PyData.eqv z d else ds.any fun z => PyData.eqv z d)) H
theorem op_inT (hu : X.A.units + 65 < cLine) : OpR X (compareOp .In) (rInT false X.K) := by
  intro pins s σ H x y v u Q I rx ry ⟨d, ds, hd, he, sd, se, q⟩
  obtain ⟨as, r1⟩ := Dp.reads I d x v hd rx
  obtain ⟨bs, r2⟩ := Dp.reads I (.tuple ds) y u he ry
  exact SeqAt.in_tuple_reads r2 r1 (by have := SeqAt.canLay_of_shaped se; rwa [PyData.canLay0] at this) (SeqAt.canLay_of_shaped sd) (room_in_shaped sd hu) ⟨.bl _, H, I, rfl, q⟩
theorem op_notInT (hu : X.A.units + 65 < cLine) : OpR X (compareOp .NotIn) (rInT true X.K) := by
  intro pins s σ H x y v u Q I rx ry ⟨d, ds, hd, he, sd, se, q⟩
  obtain ⟨as, r1⟩ := Dp.reads I d x v hd rx
  obtain ⟨bs, r2⟩ := Dp.reads I (.tuple ds) y u he ry
  exact SeqAt.notIn_tuple_reads r2 r1 (by have := SeqAt.canLay_of_shaped se; rwa [PyData.canLay0] at this) (SeqAt.canLay_of_shaped sd) (room_in_shaped sd hu) ⟨.bl _, H, I, rfl, q⟩
end
/-! ### the very same data -/
section
variable {X : Cx} {pins : List (Addr × Obj)} {σ : L2.St} {H : Hp} {s : Shared}
theorem all_true (n : Nat) : ((List.range n).all fun _ => true) = true := List.all_eq_true.mpr fun _ _ => rfl
theorem seq_at {A : Around} {F : Value → Value → Prop} {us ws : List Value} (h : Paired F us ws) (j : Nat) (h1 : j < us.length) (h2 : j < ws.length) : F us[j] ws[j] := by
  induction h generalizing j with
  | nil => exact absurd h1 (Nat.not_lt_zero _)
  | cons a b ih =>
    cases j with
    | zero => exact a
    | succ j => exact ih j (Nat.lt_of_succ_lt_succ h1) (Nat.lt_of_succ_lt_succ h2)
mutual
theorem Rp.eqAt (I : Inv X pins σ H s) : ∀ (d : D) {x y : V} {v u : Value} {A : Around}, A.units + d.dep < cLine → d.keyed = true → Rp X.K H x d → Rp X.K H y d → RelV x v → RelV y u → SeqAt.EqAt A s v u true
  | .non, _, _, _, _, _, _, _, .non, .non, r1, r2 => eqAt_same r1 r2 rfl
  | .bl b, _, _, _, _, _, _, _, .bl _, .bl _, r1, r2 => eqAt_same r1 r2 rfl
  | .int b, _, _, _, _, _, _, _, .int _, .int _, r1, r2 => eqAt_same r1 r2 rfl
  | .str b, _, _, _, _, _, _, _, .str _, .str _, r1, r2 => eqAt_same r1 r2 rfl
  | .dci a ds, _, _, _, _, _, _, _, .dci _ _, .dci _ _, r1, r2 => by
    cases r1
    cases r2
    exact SeqAt.EqAt.same _
  | .lst ds, _, _, _, _, A, hu, k, .lst (a := a) h1 q1, .lst (a := b) h2 q2, r1, r2 => by
    cases r1
    cases r2
    rw [D.keyed] at k
    rw [D.dep] at hu
    by_cases e : a = b
    · subst e
      exact SeqAt.EqAt.same _
    obtain ⟨us, v1, p1, _⟩ := I.list (SqL.of (K := X.K) h1)
    obtain ⟨ws, v2, p2, _⟩ := I.list (SqL.of (K := X.K) h2)
    have pr := RpA.eqAt I ds (A := A.in1) (by show A.units + 1 + depA ds < cLine; omega) k q1 q2 v1 v2
    have hsz : us.toArray.size = ws.toArray.size := by
      rw [List.size_toArray, List.size_toArray]
      exact Paired.length pr
    have q := SeqAt.RcAt.lists (A := A) (e := fun _ => true) p1.isList p2.isList hsz (by omega) fun j j1 j2 => by
      have := seq_at (A := A) pr j (by simpa using j1) (by simpa using j2)
      simpa using this
    rw [all_true] at q
    exact SeqAt.EqAt.of_refs e q
  | .tup ds, _, _, _, _, A, hu, k, .tup (a := a) h1 q1, .tup (a := b) h2 q2, r1, r2 => by
    cases r1
    cases r2
    rw [D.keyed] at k
    rw [D.dep] at hu
    by_cases e : a = b
    · subst e
      exact SeqAt.EqAt.same _
    obtain ⟨us, v1, ⟨o1, t1, t2, n1, t3⟩, _⟩ := I.tuple h1
    obtain ⟨ws, v2, ⟨o2, t4, t5, n2, t6⟩, _⟩ := I.tuple h2
    have pr := RpA.eqAt I ds (A := A.in1) (by show A.units + 1 + depA ds < cLine; omega) k q1 q2 v1 v2
    have hsz : us.toArray.size = ws.toArray.size := by
      rw [List.size_toArray, List.size_toArray]
      exact Paired.length pr
    have q := SeqAt.RcAt.tuples (A := A) (e := fun _ => true) (l := a) (b := b) (items := us.toArray) (items2 := ws.toArray) ⟨o1, t1, t2, n1, t3⟩ ⟨o2, t4, t5, n2, t6⟩ (by omega) fun j j1 j2 => by
      have := seq_at (A := A) pr j (by simpa using j1) (by simpa using j2)
      simpa using this
    rw [all_true, hsz] at q
    simp only [beq_self_eq_true, Bool.and_self] at q
    exact SeqAt.EqAt.of_refs e q
  | .dct _, _, _, _, _, _, _, k, _, _, _, _ => by simp [D.keyed] at k
  | .opq _, _, _, _, _, _, _, k, _, _, _, _ => by simp [D.keyed] at k
  | .scr _ _, _, _, _, _, _, _, k, _, _, _, _ => by simp [D.keyed] at k
  | .dcn _ _, _, _, _, _, _, _, k, _, _, _, _ => by simp [D.keyed] at k
theorem RpA.eqAt (I : Inv X pins σ H s) : ∀ (ds : List D) {xs ys : List V} {us ws : List Value} {A : Around}, A.units + depA ds < cLine → keyedA ds = true → RpA X.K H xs ds → RpA X.K H ys ds → Vals xs us → Vals ys ws → Paired (fun v u => SeqAt.EqAt A s v u true) us ws
  | [], _, _, _, _, _, _, _, .nil, .nil, r1, r2 => by
    cases r1
    cases r2
    exact .nil
  | d :: ds, _, _, _, _, A, hu, k, .cons h1 q1, .cons h2 q2, r1, r2 => by
    rw [keyedA, Bool.and_eq_true] at k
    rw [depA] at hu
    cases r1 with
    | cons a1 b1 =>
      cases r2 with
      | cons a2 b2 => exact .cons (Rp.eqAt I d (by omega) k.1 h1 h2 a1 a2) (RpA.eqAt I ds (by omega) k.2 q1 q2 b1 b2)
end
/-- a == b, two lists or two tuples of the very same data -/
def rSame (K : PySem.W.Frag) : R2 := fun x y H Q => ∃ d, Rp K H x d ∧ Rp K H y d ∧ d.same = true ∧ Q (.bl true) H
theorem op_same (hu : X.A.units + 65 < cLine) : OpR X (compareOp .Eq) (rSame X.K) := by
  intro pins s σ H x y v u Q I rx ry h
  obtain ⟨d, h1, h2, sm, q⟩ := h
  unfold D.same at sm
  simp only [Bool.and_eq_true, decide_eq_true_eq] at sm
  obtain ⟨⟨sq, k⟩, dp⟩ := sm
  cases d with
  | lst ds =>
    cases h1 with
    | lst a1 q1 =>
      cases h2 with
      | lst a2 q2 =>
        cases rx
        cases ry
        rw [D.keyed] at k
        rw [D.dep] at dp
        obtain ⟨us, v1, p1, _⟩ := I.list (SqL.of (K := X.K) a1)
        obtain ⟨ws, v2, p2, _⟩ := I.list (SqL.of (K := X.K) a2)
        have pr := RpA.eqAt I ds (A := X.A.in1) (by show X.A.units + 1 + depA ds < cLine; omega) k q1 q2 v1 v2
        have hsz : us.toArray.size = ws.toArray.size := by
          rw [List.size_toArray, List.size_toArray]
          exact Paired.length pr
        refine SeqAt.RcAt.lists (A := X.A) (e := fun _ => true) p1.isList p2.isList hsz (by omega) (fun j j1 j2 => ?_) X.prog X.w _ _ ?_
        · have := seq_at (A := X.A) pr j (by simpa using j1) (by simpa using j2)
          simpa using this
        · rw [all_true]
          exact ⟨.bl true, H, I, rfl, q⟩
  | tup ds =>
    cases h1 with
    | tup a1 q1 =>
      cases h2 with
      | tup a2 q2 =>
        cases rx
        cases ry
        rw [D.keyed] at k
        rw [D.dep] at dp
        obtain ⟨us, v1, ⟨o1, t1, t2, n1, t3⟩, _⟩ := I.tuple a1
        obtain ⟨ws, v2, ⟨o2, t4, t5, n2, t6⟩, _⟩ := I.tuple a2
        have pr := RpA.eqAt I ds (A := X.A.in1) (by show X.A.units + 1 + depA ds < cLine; omega) k q1 q2 v1 v2
        have hsz : us.toArray.size = ws.toArray.size := by
          rw [List.size_toArray, List.size_toArray]
          exact Paired.length pr
        refine SeqAt.RcAt.tuples (A := X.A) (e := fun _ => true) (items := us.toArray) (items2 := ws.toArray) ⟨o1, t1, t2, n1, t3⟩ ⟨o2, t4, t5, n2, t6⟩ (by omega) (fun j j1 j2 => ?_) X.prog X.w _ _ ?_
        · have := seq_at (A := X.A) pr j (by simpa using j1) (by simpa using j2)
          simpa using this
        · rw [all_true, hsz]
          simp only [beq_self_eq_true, Bool.and_self]
          exact ⟨.bl true, H, I, rfl, q⟩
  | _ => cases sq
end
end DI

set_option Elab.async false
set_option linter.all false
set_option autoImplicit false
set_option maxRecDepth 100000
set_option maxHeartbeats 1000000
/-! DI2n: dicts whose keys are nested tuples. -/
namespace DI
open PySem PySem.Spec PyProof.Rows L2
section
variable {X : Cx} {pins : List (Addr × Obj)} {σ : L2.St} {H : Hp} {s : Shared}
mutual
theorem nk_is (I : Inv X pins σ H s) : ∀ {v : V} {d : D} {k : NestedKey} {u : Value}, Rp X.K H v d → d.nk = some k → RelV v u → NestedIs s.heap k u
  | _, _, _, _, .non, e, r => by
    rw [D.nk] at e; cases e; cases r; exact .none
  | _, _, _, _, .bl b, e, r => by
    rw [D.nk] at e; cases e; cases r; exact .bool rfl
  | _, _, _, _, .int i, e, r => by
    rw [D.nk] at e; cases e; obtain ⟨t, rfl⟩ := r; exact .int i t
  | _, _, _, _, .str x, e, r => by
    rw [D.nk] at e; cases e; obtain ⟨t, rfl⟩ := r; exact .text x t
  | _, _, _, _, .tup (ds := ds) h q, e, r => by
    rw [D.nk] at e
    cases r
    cases hk : nkA ds with
    | none => rw [hk] at e; cases e
    | some ks =>
      rw [hk] at e
      cases e
      obtain ⟨its, rv, ⟨o, h1, h2, n, h3⟩, _⟩ := I.tuple h
      exact .tup h1 h2 h3 (by simpa using nkA_is I q hk rv)
  | _, _, _, _, .lst _ _, e, _ => by rw [D.nk] at e <;> first | cases e | exact nofun
  | _, _, _, _, .dct _ _, e, _ => by rw [D.nk] at e <;> first | cases e | exact nofun
  | _, _, _, _, .dci _ _, e, _ => by rw [D.nk] at e <;> first | cases e | exact nofun
  | _, _, _, _, .opq _, e, _ => by rw [D.nk] at e <;> first | cases e | exact nofun
  | _, _, _, _, .scr _, e, _ => by rw [D.nk] at e <;> first | cases e | exact nofun
  | _, _, _, _, .dcn _ _, e, _ => by rw [D.nk] at e <;> first | cases e | exact nofun
theorem nkA_is (I : Inv X pins σ H s) : ∀ {vs : List V} {ds : List D} {ks : List NestedKey} {us : List Value}, RpA X.K H vs ds → nkA ds = some ks → Vals vs us → NestedAll s.heap ks us
  | _, _, _, _, .nil, e, r => by
    rw [nkA] at e; cases e; cases r; exact .nil
  | _, _, _, _, .cons (d := d) (ds := ds) h q, e, r => by
    cases r with
    | cons r1 r2 =>
      rw [nkA] at e
      split at e
      · rename_i k ks h1 h2
        cases e
        exact .cons (nk_is I h h1 r1) (nkA_is I q h2 r2)
      · cases e
end
/-- the keys of a dict that stands -/
theorem keys_is (I : Inv X pins σ H s) : ∀ {xs : List (NestedKey × Addr × Value)} {ds : List (NestedKey × D × D)}, RpN X.K H xs ds → ∀ x ∈ xs, (nestedKind X.prog X.w).is s.heap x.1 x.2.1
  | _, _, .nil, x, hx => nomatch hx
  | _, _, .cons h1 h2 h3 h4 h5 r, x, hx => by
    rcases List.mem_cons.mp hx with e | hx
    · subst e
      exact ⟨nk_is I h1 h2 rfl, h3⟩
    · exact keys_is I r x hx
theorem dn_of {a : Addr} {xs : List (NestedKey × Addr × Value)} {ds : List (NestedKey × D × D)} (I : Inv X pins σ H s) (e : H a = some (DnO (X.prog, X.w) a xs)) (r : RpN X.K H xs ds) :
    xs.length ≤ sizeLine ∧ (a == sysModules) = false ∧ s.heap.DictOfH (nestedKind X.prog X.w) a xs := by
  obtain ⟨⟨o, es, ep, h1, h2, h3, h4, h5, h6, h7⟩, _⟩ := (show ObjOk X.prog X.w H s.heap a (DnO (X.prog, X.w) a xs) from I.hok a _ e)
  exact ⟨h6, h7, o, es, ep, h1, h2, h3, h4, keys_is I r, h5⟩
theorem dn_ok {P : Program} {w : World} {H' : Hp} {h' : Heap} {a : Addr} {xs : List (NestedKey × Addr × Value)} (z : xs.length ≤ sizeLine) (hd : (a == sysModules) = false) (dd : h'.DictOfH (nestedKind P w) a xs) : ObjOk P w H' h' a (DnO (P, w) a xs) := by
  obtain ⟨o, es, ep, h1, h2, h3, h4, h5, h6⟩ := dd
  refine ⟨⟨o, es, ep, h1, h2, h3, h4, h6, z, hd⟩, ⟨o, h1⟩, fun g1 g2 q k => ?_⟩
  obtain ⟨o, es, ep, h1, h2, h3, h4, h5, h6, h7⟩ := q
  exact ⟨o, es, ep, k _ h1, h2, h3, h4, h5, h6, h7⟩
theorem room8 {A : Around} (h : A.units + 65 < cLine) : (nestedKind X.prog X.w).room A.in1 := by
  show A.in1.units + 8 < cLine
  have : A.in1.units = A.units + 1 := rfl
  omega
theorem atKey_any {K : PySem.W.Frag} {G : Hp} {k : NestedKey} : ∀ {xs : List (NestedKey × Addr × Value)} {ds : List (NestedKey × D × D)}, RpN K G xs ds → (atKey xs k).isSome = ds.any fun p => decide (p.1 = k)
  | _, _, .nil => rfl
  | _, _, .cons (k := k') h1 h2 h3 h4 h5 r => by
    have ih := atKey_any (k := k) r
    unfold atKey at ih ⊢
    rw [List.find?_cons, List.any_cons]
    by_cases e : k' = k
    · simp [e]
    · simp only [e, decide_false, Bool.false_or]
      exact ih
def rNin (W : Program × World) (neg : Bool) (K : PySem.W.Frag) : R2 := fun x y H Q => ∃ b a xs ds dk k, x = .ref b ∧ y = .ref a ∧ H a = some (DnO W a xs) ∧ RpN K H xs ds ∧ Rp K H (.ref b) dk ∧ dk.nk = some k ∧ k.depth ≤ 8 ∧
  Q (.bl (if neg then !(ds.any fun p => decide (p.1 = k)) else ds.any fun p => decide (p.1 = k))) H
theorem op_nin (hu : X.A.units + 65 < cLine) : OpR X (compareOp .In) (rNin (X.prog, X.w) false X.K) := by
  intro pins s σ H x y v u Q I rx ry h
  obtain ⟨b, a, xs, ds, dk, k, rfl, rfl, h1, h2, h3, h4, h5, q⟩ := h
  cases rx
  cases ry
  obtain ⟨z, hd, dd⟩ := dn_of I h1 h2
  refine wpAny_in_heap (room8 hu) ⟨nk_is I h3 h4 rfl, h5⟩ hd dd ?_
  rw [atKey_any h2]
  exact ⟨.bl _, H, I.tok _, rfl, q⟩
theorem op_nnin (hu : X.A.units + 65 < cLine) : OpR X (compareOp .NotIn) (rNin (X.prog, X.w) true X.K) := by
  intro pins s σ H x y v u Q I rx ry h
  obtain ⟨b, a, xs, ds, dk, k, rfl, rfl, h1, h2, h3, h4, h5, q⟩ := h
  cases rx
  cases ry
  obtain ⟨z, hd, dd⟩ := dn_of I h1 h2
  refine wpAny_notIn_heap (room8 hu) ⟨nk_is I h3 h4 rfl, h5⟩ hd dd ?_
  rw [atKey_any h2]
  exact ⟨.bl _, H, I.tok _, rfl, q⟩
/-- d[k] = v -/
def rSetN (W : Program × World) (K : PySem.W.Frag) : V → V → V → Hp → (Hp → Prop) → Prop := fun o i v H Q => ∃ a b xs ds dk k, o = .ref a ∧ i = .ref b ∧ H a = some (DnO W a xs) ∧ RpN K H xs ds ∧ Rp K H (.ref b) dk ∧ dk.nk = some k ∧ k.depth ≤ 8 ∧ xs.length < sizeLine ∧
  ∀ u, RelV v u → Q (upd H a (DnO W a (storedH xs k b u)))
theorem set_dn (hu : X.A.units + 65 < cLine) : PSet X (rSetN (X.prog, X.w) X.K) := by
  intro pins s σ H o i v ov iv u Q I ro ri rv h
  obtain ⟨a, b, xs, ds, dk, k, rfl, rfl, h1, h2, h3, h4, h5, h6, q⟩ := h
  cases ro
  cases ri
  obtain ⟨z, hd, dd⟩ := dn_of I h1 h2
  refine wpAny_setItem_heap (hsz := z) (room8 hu) ⟨nk_is I h3 h4 rfl, h5⟩ dd fun h' dd' hs => ?_
  have hl : (storedH xs k b u).length ≤ sizeLine := by have := storedH_length xs k b u; omega
  have he : ∃ q, h'.get? a = some q := let ⟨q, _, _, hq, _⟩ := dd'; ⟨q, hq⟩
  exact ⟨_, d_write I (by rw [h1]; exact True.intro) hs he (dn_ok hl hd dd'), q u rv⟩
theorem rpN_put {K : PySem.W.Frag} {G : Hp} {k : NestedKey} {b : Addr} {dk d : D} {v : V} {u : Value} {xs : List (NestedKey × Addr × Value)} {ds : List (NestedKey × D × D)} (r : RpN K G xs ds) (h1 : Rp K G (.ref b) dk) (h2 : dk.nk = some k) (h3 : k.depth ≤ 8) (h4 : RelV v u) (h5 : Rp K G v d) :
    RpN K G (storedH xs k b u) (putN ds k dk d) := by
  unfold storedH putN
  rw [atKey_any r]
  split
  · rename_i hh
    clear h1 hh
    induction xs generalizing ds with
    | nil => cases r; exact .nil
    | cons x xs ih =>
      cases r with
      | @cons k' b' u' v' dk' d' _ ds' q1 q2 q3 q4 q5 q6 =>
        have ih' := ih q6
        rw [List.map_cons, List.map_cons]
        by_cases e : k' = k
        · subst e
          have e1 : putAt k' u (k', b', u') = (k', b', u) := by unfold putAt; rw [if_pos rfl]
          rw [e1, if_pos rfl]
          exact .cons q1 q2 q3 h4 h5 ih'
        · have e1 : putAt k u (k', b', u') = (k', b', u') := by unfold putAt; rw [if_neg e]
          rw [e1, if_neg e]
          exact .cons q1 q2 q3 q4 q5 ih'
  · rename_i hh
    clear hh
    induction xs generalizing ds with
    | nil => cases r; exact .cons h1 h2 h3 h4 h5 .nil
    | cons x xs ih =>
      cases r with
      | cons q1 q2 q3 q4 q5 q6 => exact .cons q1 q2 q3 q4 q5 (ih q6)
theorem atKey_val {K : PySem.W.Frag} {G : Hp} {k : NestedKey} {d : D} : ∀ {xs : List (NestedKey × Addr × Value)} {ds : List (NestedKey × D × D)}, RpN K G xs ds → valN ds k = some d → ∃ (p : Addr × Value) (v : V), atKey xs k = some p ∧ RelV v p.2 ∧ Rp K G v d
  | _, _, .nil, e => by cases e
  | _, _, .cons (k := k') h1 h2 h3 h4 h5 r, e => by
    unfold valN at e
    unfold atKey
    rw [List.find?_cons] at e ⊢
    by_cases c : k' = k
    · simp only [c, decide_true] at e ⊢
      cases e
      exact ⟨_, _, rfl, h4, h5⟩
    · simp only [c, decide_false] at e ⊢
      exact atKey_val r e
/-- d[k] -/
def rIxN (W : Program × World) (K : PySem.W.Frag) : R2 := fun x y H Q => ∃ a b xs ds dk k p v, x = .ref a ∧ y = .ref b ∧ H a = some (DnO W a xs) ∧ RpN K H xs ds ∧ Rp K H (.ref b) dk ∧ dk.nk = some k ∧ k.depth ≤ 8 ∧ atKey xs k = some p ∧ RelV v p.2 ∧ Q v H
theorem ix_dn (hu : X.A.units + 65 < cLine) : IxR X (rIxN (X.prog, X.w) X.K) := by
  intro value slice pins s σ H x y v u Q I rx ry h hs
  obtain ⟨a, b, xs, ds, dk, k, p, v', rfl, rfl, h1, h2, h3, h4, h5, h6, h7, q⟩ := h
  obtain rfl : v = Value.ref a := rx
  cases ry
  obtain ⟨z, hd, dd⟩ := dn_of I h1 h2
  exact tail_any dd.typeIs slot_dict_getitem.lookup (wpAny_getItem_heap (room8 hu) ⟨nk_is I h3 h4 rfl, h5⟩ dd h6 ⟨v', H, I.tok _, h7, q⟩) hs
/-- {} -/
def tDn0 (W : Program × World) : TE := fun σ H Q => ∀ p, H p = none → Q (.ref p) (upd H p (DnO W p []))
theorem pe_dn0 {pos : Pos} : PE X (.Dict [] [] pos) (tDn0 (X.prog, X.w)) := ⟨fun pins s σ H Q I h =>
  wpAny_Dict_empty ⟨.ref s.heap.objs.size, _, I.laid (a := s.heap.objs.size) (o := DnO (X.prog, X.w) s.heap.objs.size []) (t' := s.toks) (fun _ _ q => Heap.get?_push_of_some _ q) (Nat.le_refl _) (dn_ok (Nat.zero_le _) (beq_eq_false_iff_ne.mpr (Ne.symm (Nat.ne_of_lt I.big))) (Heap.DictOfH.new s.heap)), rfl, h _ (I.hok.fresh (Nat.le_refl _))⟩⟩
/-! ### a dict of the module with text keys -/
theorem mapN_K {d : Addr} {es : Array DictEntry} {n : Nat} {h : Heap} (D : KDict X.K X.w d es n) (kI : X.K.In h) : h.MapOf (noneKind X.prog X.w) d (fun k => findBy nkIs es k) :=
  ⟨_, es, n, kI _ _ D.at_, ⟨rfl, rfl, rfl⟩, rfl, fun e he => by
    obtain ⟨x, t, e1, e2⟩ := D.lit.all e (Array.mem_toList_iff.mpr he)
    refine ⟨some (.inr x), ?_, e2⟩
    rw [e1]
    exact PySem.strKind_is X.prog X.w x t, fun _ => rfl⟩
theorem findN_K {d : Addr} {es : Array DictEntry} {n : Nat} (D : KDict X.K X.w d es n) : findBy nkIs es none = none := by
  have : es.find? (fun e => nkIs none e.key) = none := by
    rw [Array.find?_eq_none]
    intro e he
    obtain ⟨x, t, e1, e2⟩ := D.lit.all e (Array.mem_toList_iff.mpr he)
    rw [e1]
    exact fun z => nomatch z
  unfold findBy
  rw [this]
  rfl
/-- the table of a dict of the module -/
def TabOf (K : PySem.W.Frag) (d : Addr) (tb : List (Str × Str)) : Prop := ∀ z : Str, ∃ r, PySem.W.nsIn K d z = some r ∧ (match tb.lookup z with
  | none => r = none
  | some y => ∃ t, r = some (.str y t))
def rGin (neg : Bool) (d : Addr) (tb : List (Str × Str)) : R2 := fun x y H Q => y = .ref d ∧ ((∃ z, x = .str z ∧ Q (.bl (if neg then !(tb.lookup z).isSome else (tb.lookup z).isSome)) H) ∨ (x = .non ∧ Q (.bl neg) H))
theorem tab_some {K : PySem.W.Frag} {d : Addr} {tb : List (Str × Str)} (h : TabOf K d tb) (z : Str) : ∃ r, PySem.W.nsIn K d z = some r ∧ r.isSome = (tb.lookup z).isSome := by
  obtain ⟨r, h1, h2⟩ := h z
  refine ⟨r, h1, ?_⟩
  split at h2
  · rename_i e; rw [h2, e]; rfl
  · rename_i y e; obtain ⟨t, rfl⟩ := h2; rw [e]; rfl
theorem op_gin {d : Addr} {es : Array DictEntry} {n : Nat} {tb : List (Str × Str)} (D : KDict X.K X.w d es n) (tab : TabOf X.K d tb) : OpR X (compareOp .In) (rGin false d tb) := by
  intro pins s σ H x y v u Q I rx ry h
  obtain ⟨rfl, ⟨z, rfl, q⟩ | ⟨rfl, q⟩⟩ := h
  · obtain ⟨r, h1, h2⟩ := tab_some tab z
    exact op_in_kd D pins s σ H _ _ v u Q I rx ry ⟨z, r, rfl, rfl, h1, by rw [h2]; exact q⟩
  · cases rx
    cases ry
    refine wpAny_in_of (knd := noneKind X.prog X.w) (k := none) rfl D.low (mapN_K D I.kIn) ?_
    rw [findN_K D]
    exact ⟨.bl false, H, I.tok _, rfl, q⟩
theorem op_gnin {d : Addr} {es : Array DictEntry} {n : Nat} {tb : List (Str × Str)} (D : KDict X.K X.w d es n) (tab : TabOf X.K d tb) : OpR X (compareOp .NotIn) (rGin true d tb) := by
  intro pins s σ H x y v u Q I rx ry h
  obtain ⟨rfl, ⟨z, rfl, q⟩ | ⟨rfl, q⟩⟩ := h
  · obtain ⟨r, h1, h2⟩ := tab_some tab z
    exact op_notIn_kd D pins s σ H _ _ v u Q I rx ry ⟨z, r, rfl, rfl, h1, by rw [h2]; exact q⟩
  · cases rx
    cases ry
    refine wpAny_notIn_of (knd := noneKind X.prog X.w) (k := none) rfl D.low (mapN_K D I.kIn) ?_
    rw [findN_K D]
    exact ⟨.bl true, H, I.tok _, rfl, q⟩
def rGix (d : Addr) (tb : List (Str × Str)) : R2 := fun x y H Q => x = .ref d ∧ ∃ z w, y = .str z ∧ tb.lookup z = some w ∧ Q (.str w) H
theorem ix_gix {d : Addr} {es : Array DictEntry} {n : Nat} {tb : List (Str × Str)} (D : KDict X.K X.w d es n) (tab : TabOf X.K d tb) : IxR X (rGix d tb) := by
  intro value slice pins s σ H x y v u Q I rx ry h hs
  obtain ⟨rfl, z, w, rfl, e, q⟩ := h
  obtain ⟨r, h1, h2⟩ := tab z
  rw [e] at h2
  obtain ⟨t, rfl⟩ := h2
  obtain rfl : v = Value.ref d := rx
  exact tail_any (kd_type D I) slot_dict_getitem.lookup (op_item_kd D pins s σ H (.ref d) (.str z) (.ref d) u Q I (show RelV (.ref d) (.ref d) from rfl) ry ⟨z, .str w t, .str w, rfl, rfl, h1, (show ∃ t', Value.str w t = Value.str w t' from ⟨t, rfl⟩), q⟩) hs
/-- {k: v} -/
def tDn1 (W : Program × World) (K : PySem.W.Frag) (tk tv : TE) : TE := fun σ H Q => ∀ p, H p = none → tk σ (upd H p (.dK [])) fun x H1 => tv σ H1 fun y H2 => H2 p = some (.dK []) ∧
  ∃ b dk k, x = .ref b ∧ Rp K H2 (.ref b) dk ∧ dk.nk = some k ∧ k.depth ≤ 8 ∧ ∀ u, RelV y u → Q (.ref p) (upd H2 p (DnO W p [(k, b, u)]))
theorem pe_dn1 {k v : Expr} {tk tv : TE} {pos : Pos} (hu : X.A.units + 65 < cLine) (hk : PE X k tk) (hv : PE X v tv) : PE X (.Dict [some k] [v] pos) (tDn1 (X.prog, X.w) X.K tk tv) := by
  refine ⟨fun pins s σ H Q I q => ?_⟩
  have hn := I.hok.fresh (Nat.le_refl s.heap.objs.size)
  have I1 := I.laid (a := s.heap.objs.size) (o := .dK []) (h' := s.heap.push { cls := .type "dict", data := .dict #[] }) (t' := s.toks) (fun _ _ q => Heap.get?_push_of_some _ q) (Nat.le_refl _) (dk_empty s.heap I.big)
  have h15 : (pairTrees [some k] [v] X.env pos).length ≤ 15 := by
    rw [pairTrees_length _ _ _ _ rfl rfl]
    exact (by decide : 1 ≤ 15)
  have hne : pairTrees [some k] [v] X.env pos ≠ [] := fun z => by
    have := pairTrees_length [some k] [v] X.env pos rfl rfl
    rw [z] at this
    cases this
  have hp := (pps_cons hk hv (pps_nil (X := X) (pos := pos))).run pins _ σ _ (fun ps H2 => match ps with
    | [(x, y)] => H2 s.heap.objs.size = some (.dK []) ∧ ∃ b dk k, x = .ref b ∧ Rp X.K H2 (.ref b) dk ∧ dk.nk = some k ∧ k.depth ≤ 8 ∧ ∀ u, RelV y u → Q (.ref s.heap.objs.size) (upd H2 s.heap.objs.size (DnO (X.prog, X.w) s.heap.objs.size [(k, b, u)]))
    | _ => False) I1 (q _ hn)
  rw [arm_eval_Dict, zip_pairTrees _ _ _ _ rfl rfl, dictDisplay_pairs _ hne (by omega)]
  refine wpAny_bind (wpAny_standAt (wpAny_bind (wpAny_subDictH (knd := nestedKind X.prog X.w) (Q := fun d s' => wpAny (model X.prog X.w) X.A (pure (Value.ref d)) (EP X pins σ Q) X.xe s') (show X.A.units + 8 < cLine by omega) h15 (thn hp ?_))))
  rintro vs s2 ⟨ps, H2, I2, rel, q⟩
  split at q
  case h_2 => exact q.elim
  rename_i x y
  obtain ⟨e, b, dk, k, rfl, h1, h2, h3, q2⟩ := q
  cases rel with
  | cons r0 r1 =>
    cases r1
    rename_i w0
    obtain ⟨w1, w2⟩ := w0
    obtain ⟨ra, rb⟩ := r0
    cases ra
    obtain ⟨z, hd, vs0, r0, dd⟩ := dk_of I2.hok e
    cases r0
    have d0 : s2.heap.DictOfH (nestedKind X.prog X.w) s.heap.objs.size [] := by
      obtain ⟨o, es, ep, g1, g2, g3, _, g4, g5⟩ := dd
      have g6 : es.toList = [] := by
        cases e0 : es.toList with
        | nil => rfl
        | cons x xs => rw [e0] at g4; exact nomatch g4
      exact ⟨o, es, ep, g1, g2, g3, g6, fun x hx => (nomatch hx), by simp⟩
    refine ⟨[(k, b, w2)], ⟨rfl, rfl, ⟨nk_is I2 h1 h2 rfl, h3⟩, True.intro⟩, d0, fun h' tk dd' hs => wpAny_pure ?_⟩
    have he : ∃ q, h'.get? s.heap.objs.size = some q := let ⟨q, _, _, hq, _⟩ := dd'; ⟨q, hq⟩
    have hz : ([(k, b, w2)] : List (NestedKey × Addr × Value)).length ≤ sizeLine := (by rw [sizeLine_eq]; decide : 1 ≤ sizeLine)
    exact ⟨.ref s.heap.objs.size, _, d_write I2 (by rw [e]; exact True.intro) hs he (dn_ok hz hd dd'), rfl, q2 w2 rb⟩
end
end DI

set_option Elab.async false
set_option linter.all false
set_option autoImplicit false
set_option maxRecDepth 100000
set_option maxHeartbeats 3200000
/-! DI2s: set(list of ints), a list's item by value. -/
namespace DI
open PySem PySem.Spec PyProof.Rows L2
abbrev sob (w : World) : Obj := { cls := .type "set", dict := none, data := .set #[] 0 (.fresh 0 0 (!w.params.followText "set-order")) }
section
variable {P : Program} {w : World} {A : Around} {E : Value → Shared → Prop} {s : Shared}
theorem call_setI {l : Addr} {its : Array Value} (ns : List Int) {Q : Value → Shared → Prop} (hh : A.handled = none) (hl : s.heap.IsList l its) (hit : IntsAre its.toList ns) (hb : ns.length + 1 < scanBound)
    (h : ∀ (h' : Heap) (tk c : Nat), SetR w h' s.heap.objs.size (fun j => decide (j ∈ ns)) c → c ≤ ns.length → (∀ b o, s.heap.get? b = some o → h'.get? b = some o) → Q (.ref s.heap.objs.size) { s with heap := h', toks := tk }) :
    wpAny (model P w) A (call (.type "set") [.ref l]) Q E s := by
  have hisz : its.size = ns.length := by rw [← IntsAre.length hit, Array.length_toList]
  obtain ⟨c0, tl0, hmro⟩ := F.called_set.mro
  have k1 := F.called_set.made
  have k2 := F.called_set.sub
  refine wpAny_call (codeAny_of_tree ?_)
  show wpAny (model P w) _ (callAny (.type "set") ⟨[.ref l], []⟩) _ _ _
  refine wpAny_pure ⟨Code.quiet_builtin _ (by decide +kernel), codeAny_builtin F.entry_type_call ?_⟩
  rw [Around.under_plain (weight_type_call_type "set" [.ref l] []) rfl]
  have k3 := F.called_set.notType
  have k4 := F.called_set.canCreate
  have k5 := F.typeCall_set_1 (.ref l)
  repeat (any_goals (first | assumption | wp_step))
  refine codeAny_mono (code_set_led1 (.ref l) (E := E) (Q₁ := fun ob s1 => ob = .ref s.heap.objs.size ∧ s1 = { s with heap := s.heap.push (sob w) }) ⟨rfl, rfl⟩) fun r s1 hr => ?_
  cases r with
  | error e => exact hr
  | ok fl =>
    cases fl with
    | next => exact hr
    | brk => exact hr
    | cont => exact hr
    | ret ob =>
      obtain ⟨rfl, rfl⟩ := hr
      have hS : (s.heap.push (sob w)).get? s.heap.objs.size = some (sob w) := Heap.get?_push_size _ rfl
      have hT : Shared.TypeIs { s with heap := s.heap.push (sob w) } (.ref s.heap.objs.size) "set" := ⟨_, hS, rfl⟩
      have k6 := F.called_set.init.lookup
      have k7 := F.called_set.init.bind (.ref s.heap.objs.size)
      repeat (any_goals (first | assumption | wp_step))
      refine codeAny_mono (codeAny_call_builtin (R := wants (fun r s2 => r = .none ∧ ∃ h' tk c, s2 = { s with heap := h', toks := tk } ∧ SetR w h' s.heap.objs.size (fun j => decide (j ∈ ns)) c ∧ c ≤ ns.length ∧
          (∀ b o, s.heap.get? b = some o → h'.get? b = some o)) E) F.called_set.init.plain F.entry_set_init (check_set_init_1 hT ?_)) fun r2 s2 hr2 => ?_
      · obtain ⟨ol, hol, hcl, nl, hdl⟩ := hl
        obtain ⟨ocls, odict, odata, oslots⟩ := ol
        simp only at hcl hdl
        subst hcl
        subst hdl
        have hol' : (s.heap.push (sob w)).get? l = some { cls := .type "list", dict := odict, data := .seq its nl, slots := oslots } := Heap.get?_push_of_some _ hol
        have k8 := F.sub_list_set
        have k9 := F.sub_list_frozenset
        have k0 : (Value.type "list" == Value.type "dict") = false := by decide
        have hl1 : (s.heap.push (sob w)).IsList l its := ⟨_, hol', rfl, nl, rfl⟩
        unfold Builtin.«set.__init__» noKeywords Builtin.Frozenset.updateFrom
        generalize hPI : pyIter = PI
        wp_walk
        subst hPI
        refine wpAny_pyIter_list hl1 ?_
        refine wpAny_bind (wpAny_runValue ?_)
        have hlS : l < s.heap.objs.size := Heap.lt_size hol
        have hh3 : A.in1.in1.in1.handled = none := by simp [hh]
        have hneI : l ≠ (s.heap.push (sob w)).objs.size := by
          rw [Heap.size_push]
          exact Nat.ne_of_lt (Nat.lt_succ_of_lt hlS)
        have hSf : s.heap.objs.size ∉ [(s.heap.push (sob w)).objs.size, l] := by
          rw [Heap.size_push]
          simp only [List.mem_cons, List.mem_singleton, List.not_mem_nil, or_false, not_or]
          refine ⟨Nat.ne_of_lt (Nat.lt_succ_self _), Nat.ne_of_gt hlS⟩
        have hval : ∀ (i : Nat) (v : Value), its[i]? = some v → ∃ k t, ns[i]? = some k ∧ v = .int k t := fun i v hv => by
          have hi : i < ns.length := by rw [← hisz]; exact (Array.getElem?_eq_some_iff.mp hv).1
          obtain ⟨t, e⟩ := PyProof.Rows.IntsAre.int_at hit i v (by rw [Array.getElem?_toList]; exact hv)
          refine ⟨ns[i], t, List.getElem?_eq_getElem hi, ?_⟩
          rw [e, List.getD_eq_getElem?_getD, List.getElem?_eq_getElem hi] <;> rfl
        refine set_update_ints ((Walks.list hh3 _ l hneI its).toS) s.heap.objs.size
          hSf ns hisz hb hval (its.size - 0) 0 _ (by omega) (Nat.zero_le _)
          ⟨⟨_, Heap.get?_push_size _ rfl, rfl, rfl⟩, (hl1.push _)⟩ ?hS0 ?hR
        case hS0 =>
          have hget : ((s.heap.push (sob w)).push { cls := .type "list_iterator", data := .fields #[.ref l, .int 0 0] }).get? s.heap.objs.size = some (sob w) := Heap.get?_push_of_some _ hS
          exact ⟨0, Nat.le_refl 0, setR_new_at hget⟩
        case hR =>
          intro s' c' hm hc' hS'
          obtain ⟨h', g2, d', tk', os'⟩ := s'
          have eg : g2 = s.gens := hm.gens
          have ed : d' = s.drawn := hm.drawn
          have eo : os' = s.os := hm.os
          subst eg
          subst ed
          subst eo
          refine wpAny_pure ?_
          rw [hisz] at hc'
          refine wpAny_pure ⟨rfl, h', tk', c', rfl, hS', hc', fun b o e => ?_⟩
          have hb0 : b < s.heap.objs.size := Heap.lt_size e
          refine hm.heap b o ?_ (Heap.get?_push_of_some _ (Heap.get?_push_of_some _ e))
          rw [Heap.size_push]
          simp only [List.mem_cons, List.mem_singleton, List.not_mem_nil, or_false, not_or]
          exact ⟨Nat.ne_of_lt hb0, Nat.ne_of_lt (Nat.lt_succ_of_lt hb0)⟩
      · cases r2 with
        | error e => exact hr2
        | ok fl2 =>
          cases fl2 with
          | next => exact hr2.elim
          | brk => exact hr2.elim
          | cont => exact hr2.elim
          | ret rr =>
            obtain ⟨rfl, h', tk, c', rfl, hS', hc', hk'⟩ := hr2
            repeat (any_goals (first | assumption | wp_step))
            exact h h' tk c' hS' hc' hk'
end
section
variable {X : Cx}
/-- set(a list of ints) -/
def rSetLI (w : World) (K : PySem.W.Frag) : List V → Hp → VK → Prop := fun xs H Q => ∃ (a : Addr) (ns : List Int), xs = [.ref a] ∧ SqL K H a (ns.map V.int) ∧ ns.length < 64 ∧ ∀ p c, H p = none → c ≤ ns.length → Q (.ref p) (upd H p (SetO w p (fun j => decide (j ∈ ns)) c))
theorem cr_setLI (hc : X.calm = true) : CallR X (.type "set") (rSetLI X.w X.K) := by
  intro pins s σ H xs us Q I r h
  obtain ⟨a, ns, rfl, hq, h64, q⟩ := h
  rw [Vals.ref1 r]
  obtain ⟨its, rv, pl, hz⟩ := I.list hq
  refine call_setI ns (I.ok.hd hc) pl.isList (by simpa using ints_of_vals rv) (by unfold scanBound; omega) fun h' tk c R hcl hk => ?_
  exact ⟨.ref s.heap.objs.size, _, I.laid (t' := tk) hk (Nat.le_refl _) (setO_new R), rfl, q _ c (I.hok.fresh (Nat.le_refl _)) hcl⟩
/-- an item of a list, by values -/
theorem get_list : PGet X (rIxL X.K) := by
  intro pins s σ H o i ov iv Q I ro ri h
  obtain ⟨p, xs, k, z, rfl, rfl, hq, he, q⟩ := h
  cases ro
  obtain ⟨t, rfl⟩ := ri
  obtain ⟨its, r, pl, hz⟩ := I.list hq
  obtain ⟨j, h1, h2, h3, h4, h5⟩ := atI_get he
  obtain ⟨w, ew, rw'⟩ := r.get h2
  have hl := r.length
  have hn := line63
  have fin : EP X pins σ Q w s := ⟨z, H, I, rw', q⟩
  by_cases h0 : 0 ≤ k
  · have hj : k.toNat = j := by
      rw [seqIndex_of h0 h5] at h1
      exact Option.some.inj h1
    exact wpAny_getItem_list pl.isList h0 (by omega) (by rw [hj]; simpa using ew) fin
  · have hj : (k + (its.toArray.size : Int)).toNat = j := by
      rw [seqIndex_neg (by omega) h4] at h1
      rw [List.size_toArray, ← hl]
      exact Option.some.inj h1
    exact wpAny_getItem_list_neg pl.isList (by omega) (by rw [List.size_toArray] <;> omega) (by omega) (by rw [hj]; simpa using ew) fin
end
end DI

set_option Elab.async false
set_option linter.all false
set_option autoImplicit false
set_option maxRecDepth 100000
set_option maxHeartbeats 1000000
/-! DI2e: dicts with text keys, isinstance, count, lists of unlike lengths. -/
namespace DI
open PySem PySem.Spec PyProof.Rows L2
section
variable {X : Cx}
theorem call_lenDR : CallR X (.builtin "len") (fun xs H Q => ∃ a kvs, xs = [V.ref a] ∧ Rd H a (.dK kvs) ∧ Q (.int kvs.length) H) := by
  intro pins s σ H xs us Q I r h
  obtain ⟨a, kvs, rfl, ha, q⟩ := h
  obtain ⟨u, rfl, ru⟩ := vals1 r
  cases ru
  exact d_len I ha fun t s' I' => ⟨.int kvs.length, H, I', ⟨t, rfl⟩, q⟩
/-- d[k] -/
def rIxK : R2 := fun x y H Q => ∃ a kvs k v, x = .ref a ∧ Rd H a (.dK kvs) ∧ y = kV k ∧ valV kvs k = some v ∧ Q v H
theorem ix_dK : IxR X rIxK := by
  intro value slice pins s σ H x y v u Q I rx ry h hs
  obtain ⟨a, kvs, k, r, rfl, e, rfl, l, q⟩ := h
  obtain rfl : v = Value.ref a := rx
  obtain ⟨z, hd, vs, rel, dd⟩ := dk_rd I.hok e
  obtain ⟨w', hw, rw'⟩ := RelO.some_of (v := r) (o := valueAt vs k) (by rw [← l]; exact rel.val k)
  exact tail_any dd.mapOf.typeIs slot_dict_getitem.lookup (wpAny_getItem_of (kV_is ry) dd.mapOf hw ⟨r, H, I.tok _, rw', q⟩) hs
/-- lists of unlike lengths -/
def rLen (neg : Bool) (K : PySem.W.Frag) : R2 := fun x y H Q => ∃ a b xs ys, x = .ref a ∧ y = .ref b ∧ SqL K H a xs ∧ SqL K H b ys ∧ xs.length ≠ ys.length ∧ Q (.bl neg) H
theorem len_sz {xs ys : List V} {us ws : List Value} (h : xs.length ≠ ys.length) (r1 : Vals xs us) (r2 : Vals ys ws) : (us.toArray.size != ws.toArray.size) = true := by
  rw [List.size_toArray, List.size_toArray, ← r1.length, ← r2.length]
  simpa using h
theorem op_eqLen (hu : X.A.units + 65 < cLine) : OpR X (compareOp .Eq) (rLen false X.K) := by
  intro pins s σ H x y v u Q I rx ry h
  obtain ⟨a, b, xs, ys, rfl, rfl, h1, h2, hne, q⟩ := h
  cases rx
  cases ry
  obtain ⟨its, r1, p1, _⟩ := I.list h1
  obtain ⟨its2, r2, p2, _⟩ := I.list h2
  exact SeqAt.RcAt.lists_lengths p1.isList p2.isList (len_sz hne r1 r2) (by omega) _ _ _ _ ⟨.bl false, H, I, rfl, q⟩
theorem op_neLen (hu : X.A.units + 65 < cLine) : OpR X (compareOp .NotEq) (rLen true X.K) := by
  intro pins s σ H x y v u Q I rx ry h
  obtain ⟨a, b, xs, ys, rfl, rfl, h1, h2, hne, q⟩ := h
  cases rx
  cases ry
  obtain ⟨its, r1, p1, _⟩ := I.list h1
  obtain ⟨its2, r2, p2, _⟩ := I.list h2
  exact SeqAt.RcNeAt.lists_lengths p1.isList p2.isList (len_sz hne r1 r2) (by omega) _ _ _ _ ⟨.bl true, H, I, rfl, q⟩
/-- isinstance(x, (c1, c2, ..)), the tuple of any kind -/
def rIsiS (K : PySem.W.Frag) : List V → Hp → VK → Prop := fun xs H Q => ∃ (x : V) (tp : Addr) (cs : List V) (t : Value) (us : List Value) (b : Bool), xs = [x, .ref tp] ∧ SqT K H tp cs ∧ Paired ClsV cs us ∧ TyX K H x t ∧ PySem.W.kitAny K t us = some b ∧ Q (.bl b) H
theorem call_isiS : CallR X (.builtin "isinstance") (rIsiS X.K) := by
  intro pins s σ H xs us Q I r h
  obtain ⟨x, tp, cs, t, ws, b, rfl, hT, k, ty, e, q⟩ := h
  obtain ⟨u1, u2, rfl, r1, r2⟩ := vals2 r
  cases (show u2 = Value.ref tp from r2)
  obtain ⟨P, Z, p, hx⟩ := kit_of I r1 ty
  obtain ⟨its, rv, ⟨o, h1, h2, n, h3⟩, _⟩ := I.tuple hT
  have e3 := ClsV.all k rv
  subst e3
  obtain ⟨oc, od, dt, sl⟩ := o
  simp only at h2 h3
  subst h2 h3
  exact PySem.W.kia_tup Z I.kIn p h1 e hx fun tk => ⟨.bl b, H, I.tok tk, rfl, q⟩
/-- d[k] = v, a text for a key -/
def rSetK : V → V → V → Hp → (Hp → Prop) → Prop := fun o i v H Q => ∃ a kvs k, o = .ref a ∧ i = kV k ∧ H a = some (.dK kvs) ∧ kvs.length < sizeLine ∧ Q (upd H a (.dK (putK kvs k v)))
theorem set_dK (hu : X.A.units + 65 < cLine) : PSet X rSetK := by
  intro pins s σ H o i v ov iv u Q I ro ri rv h
  obtain ⟨a, kvs, k, rfl, rfl, h1, h2, q⟩ := h
  cases ro
  exact d_setItem (by omega) I (DPut.k h1 h2) ri rv fun s' I' => ⟨_, I', q⟩
theorem pset_or {t t' : TSet} (h : PSet X t) (h' : PSet X t') : PSet X (fun o i v H Q => t o i v H Q ∨ t' o i v H Q) := fun pins s σ H o i v ov iv u Q I r1 r2 r3 q => q.elim (h pins s σ H o i v ov iv u Q I r1 r2 r3) (h' pins s σ H o i v ov iv u Q I r1 r2 r3)
/-- l.count(x), texts -/
def rCnt (K : PySem.W.Frag) : V → List V → Hp → VK → Prop := fun x xs H Q => ∃ (a : Addr) (ss : List Str) (z : Str), x = .ref a ∧ xs = [.str z] ∧ SqL K H a (ss.map V.str) ∧ Q (.int (ss.countP fun w => decide (w = z) : Nat)) H
theorem holds_strs {h : Heap} : ∀ {ss : List Str} {us : List Value}, Vals (ss.map V.str) us → PySem.W.HoldAll h us ss
  | [], us, r => by cases r; exact PySem.W.HoldAll.nil
  | x :: ss, us, r => by
    cases r with
    | cons r1 r2 =>
      obtain ⟨t, rfl⟩ := r1
      exact PySem.W.HoldAll.cons (PySem.W.holds_str ..) (holds_strs r2)
theorem mt_cnt (hu : X.A.units + 65 < cLine) : MtR X "list.count" (rCnt X.K) := by
  intro pins s σ H x xs v us Q I rx rv h
  obtain ⟨a, ss, z, rfl, rfl, h1, q⟩ := h
  cases rx
  obtain ⟨u, rfl, ru⟩ := rv.one
  obtain ⟨t, rfl⟩ := ru
  obtain ⟨its, r1, p1, _⟩ := I.list h1
  refine PySem.W.count_list_datum p1.isList (xs := ss) (x := z) (by simpa using holds_strs r1) (PySem.W.holds_str ..) (by show X.A.units + 1 + 0 < cLine; omega) ⟨.int _, H, I.tok _, ⟨_, rfl⟩, q⟩
end
/-! ### dicts with keys ints and texts -/
theorem keyD_kD (k : Key) : keyD (kD k) = some k := by cases k <;> rfl
section
variable {K : PySem.W.Frag} {G : Hp}
theorem RpK.val {kvs : List (Key × V)} {ds : List (D × D)} (h : RpK K G kvs ds) {k : Key} {d : D} (e : valD ds k = some d) : ∃ v, valV kvs k = some v ∧ Rp K G v d := by
  induction kvs generalizing ds with
  | nil => cases h; cases e
  | cons p kvs ih =>
    cases h with
    | @cons k' v' d' _ ds' a b =>
      rw [valD] at e
      rw [keyD_kD] at e
      by_cases hk : k' = k
      · subst hk
        rw [if_pos rfl] at e
        cases e
        exact ⟨v', valV_pos rfl, a⟩
      · rw [if_neg (fun z => hk (Option.some.inj z))] at e
        obtain ⟨v, h1, h2⟩ := ih b e
        exact ⟨v, by rw [valV_neg hk]; exact h1, h2⟩
theorem RpK.has {kvs : List (Key × V)} {ds : List (D × D)} (h : RpK K G kvs ds) (k : Key) : (kvs.any fun kv => decide (kv.1 = k)) = hasD ds k := by
  induction kvs generalizing ds with
  | nil => cases h; rfl
  | cons p kvs ih =>
    cases h with
    | @cons k' v' d' _ ds' a b =>
      unfold hasD at *
      rw [List.any_cons, List.any_cons, ih b, keyD_kD]
      congr 1
      rw [Bool.eq_iff_iff]
      simp
theorem RpK.put {kvs : List (Key × V)} {ds : List (D × D)} (h : RpK K G kvs ds) (k : Key) {v : V} {d : D} (r : Rp K G v d) : RpK K G (putK kvs k v) (putDD ds k d) := by
  have e := h.has k
  unfold putK putDD
  by_cases hh : hasD ds k = true
  · rw [if_pos hh, if_pos (by rw [e]; exact hh)]
    clear hh e
    induction kvs generalizing ds with
    | nil => cases h; exact .nil
    | cons p kvs ih =>
      cases h with
      | @cons k' v' d' _ ds' a b =>
        rw [List.map_cons, List.map_cons]
        by_cases hk : k' = k
        · subst hk
          rw [if_pos rfl, if_pos (keyD_kD _)]
          exact .cons r (ih b)
        · rw [if_neg hk, if_neg (fun z => hk (by rw [keyD_kD] at z; exact Option.some.inj z))]
          exact .cons a (ih b)
  · rw [if_neg hh, if_neg (by rw [e]; exact hh)]
    clear hh e
    induction kvs generalizing ds with
    | nil => cases h; exact .cons r .nil
    | cons p kvs ih =>
      cases h with
      | cons a b => exact .cons a (ih b)
theorem RpK.merge {kvs : List (Key × V)} {ds : List (D × D)} (h : RpK K G kvs ds) : ∀ {more : List (Key × V)} {ms : List (Key × D)}, Paired (fun p q => p.1 = q.1 ∧ Rp K G p.2 q.2) more ms → RpK K G (mergeK kvs more) (mergeDD ds ms) := by
  intro more ms r
  induction r generalizing kvs ds with
  | nil => exact h
  | @cons p q ps qs hq t ih =>
    obtain ⟨e, hr⟩ := hq
    have := h.put p.1 hr
    show RpK K G (mergeK (putK kvs p.1 p.2) ps) (mergeDD (putDD ds q.1 q.2) qs)
    rw [← e]
    exact ih this
theorem RpK.keys {kvs : List (Key × V)} {ds : List (D × D)} (h : RpK K G kvs ds) : ds.map (·.1) = kvs.map fun p => kD p.1 := by
  induction kvs generalizing ds with
  | nil => cases h; rfl
  | cons p kvs ih =>
    cases h with
    | cons a b => rw [List.map_cons, List.map_cons, ih b]
theorem keys_str {kvs : List (Key × V)} {ks : List Str} (h : kvs.map (fun p => kD p.1) = ks.map D.str) : kvs.map (·.1) = ks.map Sum.inr := by
  induction kvs generalizing ks with
  | nil => cases ks with
    | nil => rfl
    | cons k ks => cases h
  | cons p kvs ih => cases ks with
    | nil => cases h
    | cons k ks =>
      rw [List.map_cons, List.map_cons] at h
      injection h with h1 h2
      rw [List.map_cons, List.map_cons, ih h2]
      congr 1
      cases e : p.1 with
      | inl i => rw [e] at h1; cases h1
      | inr x => rw [e] at h1; cases h1; rfl
theorem RpA.pairs {vs : List V} {kvs : List (Key × D)} (h : RpA K G vs (kvs.map fun p => D.tup [kD p.1, p.2])) : ∃ (ps : List Addr) (ms : List (Key × V)), vs = ps.map V.ref ∧ Paired (fun p kv => SqT K G p [kV kv.1, kv.2]) ps ms ∧ Paired (fun p q => p.1 = q.1 ∧ Rp K G p.2 q.2) ms kvs := by
  induction kvs generalizing vs with
  | nil => cases h; exact ⟨[], [], rfl, .nil, .nil⟩
  | cons p kvs ih =>
    rw [List.map_cons] at h
    cases h with
    | cons a b =>
      obtain ⟨ps, ms, rfl, h1, h2⟩ := ih b
      cases a with
      | @tup a vs' _ q1 q2 =>
        cases q2 with
        | cons r1 r2 => cases r2 with
          | cons r3 r4 =>
            cases r4
            rename_i v1 v2
            have e : v1 = kV p.1 := by
              obtain ⟨k, d⟩ := p
              cases k with
              | inl i => cases r1; rfl
              | inr x => cases r1; rfl
            subst e
            exact ⟨a :: ps, (p.1, v2) :: ms, rfl, .cons q1 h1, .cons ⟨rfl, r3⟩ h2⟩
end
end DI

set_option Elab.async false
set_option linter.all false
set_option autoImplicit false
set_option maxRecDepth 100000
set_option maxHeartbeats 1000000
/-! DI2b: each operator's reading holds what is asked over data. -/
namespace DI
open PySem PySem.Spec PyProof.Rows L2

def rStrAdd : R2 := fun x y H Q => ∃ i j, x = .str i ∧ y = .str j ∧ i.length + j.length ≤ sizeLine ∧ Q (.str (i ++ j)) H
def rStrIn (neg : Bool) : R2 := fun x y H Q => ∃ i j, x = .str i ∧ y = .str j ∧ Q (.bl (if neg then !(!(Builtin.Str.occurrences j i 0 j.length 1).isEmpty) else !(Builtin.Str.occurrences j i 0 j.length 1).isEmpty)) H
def rIs0 (neg : Bool) : R2 := fun x y H Q => y = .non ∧ Q (.bl (if neg then !decide (x = .non) else decide (x = .non))) H
def rIsB0 (neg : Bool) : R2 := fun x y H Q => ∃ a b : Bool, x = .bl a ∧ y = .bl b ∧ Q (.bl (if neg then !decide (a = b) else decide (a = b))) H
def rd2 (W : Program × World) (o : O2) (K : PySem.W.Frag) : R2 := match o with
  | .add => fun x y H Q => rI0 (fun i j => .int (i + j)) x y H Q ∨ rStrAdd x y H Q ∨ rCat x y H Q ∨ rCatA K x y H Q
  | .sub => rI0 fun i j => .int (i - j)
  | .mul => fun x y H Q => rI CMul (fun i j => .int (i * j)) x y H Q ∨ rRep x y H Q
  | .mod => rI (fun _ j => 0 < j) fun i j => .int (i % j)
  | .fdiv => rI CDiv fun i j => .int (i / j)
  | .pow => rI CPow fun i j => .int (i ^ j.toNat)
  | .eq => fun x y H Q => (rEqs K x y H Q ∨ rLen false K x y H Q) ∨ rSame K x y H Q
  | .ne => fun x y H Q => rNes K x y H Q ∨ rLen true K x y H Q
  | .lt => rI0 fun i j => .bl (decide (i < j))
  | .le => rI0 fun i j => .bl (decide (i ≤ j))
  | .gt => rI0 fun i j => .bl (decide (j < i))
  | .ge => rI0 fun i j => .bl (decide (j ≤ i))
  | .isin => fun x y H Q => rIn K false x y H Q ∨ rInD K x y H Q ∨ rInT false K x y H Q ∨ rStrIn false x y H Q ∨ rNin W false K x y H Q
  | .notin => fun x y H Q => rIn K true x y H Q ∨ rNotInD K x y H Q ∨ rInT true K x y H Q ∨ rStrIn true x y H Q ∨ rNin W true K x y H Q
  | .is => fun x y H Q => rIsB0 false x y H Q ∨ rIs0 false x y H Q
  | .isnot => fun x y H Q => rIsB0 true x y H Q ∨ rIs0 true x y H Q
  | .ix => fun x y H Q => (rIx K x y H Q ∨ rIxK x y H Q) ∨ rIxN W K x y H Q
inductive Sort2 where
  | bin (op : Operator)
  | cmp (op : CmpOp)
  | idx
def O2.sort : O2 → Sort2
  | .add => .bin .Add
  | .sub => .bin .Sub
  | .mul => .bin .Mult
  | .mod => .bin .Mod
  | .fdiv => .bin .FloorDiv
  | .pow => .bin .Pow
  | .eq => .cmp .Eq
  | .ne => .cmp .NotEq
  | .lt => .cmp .Lt
  | .le => .cmp .LtE
  | .gt => .cmp .Gt
  | .ge => .cmp .GtE
  | .isin => .cmp .In
  | .notin => .cmp .NotIn
  | .is => .cmp .Is
  | .isnot => .cmp .IsNot
  | .ix => .idx
section
variable {X : Cx}
theorem opr_bin {o : O2} {op : Operator} (h : o.sort = .bin op) : OpR X (binaryOp op) (rd2 (X.prog, X.w) o X.K) := by
  cases o <;> cases h
  · exact op_add.or (op_add_str.or (op_cat.or op_catA))
  · exact op_sub
  · exact op_mul.or op_rep
  · exact op_mod
  · exact op_fdiv
  · exact op_pow
theorem opr_cmp {o : O2} {op : CmpOp} (hu : X.A.units + 65 < cLine) (h : o.sort = .cmp op) : OpR X (compareOp op) (rd2 (X.prog, X.w) o X.K) := by
  cases o <;> cases h
  · exact ((op_eq.or (op_eqD (by omega))).or (op_eqLen hu)).or (op_same hu)
  · exact (op_ne.or (op_neD (by omega))).or (op_neLen hu)
  · exact op_lt
  · exact op_le
  · exact op_gt
  · exact op_ge
  · exact op_in_seq.or ((op_inD hu).or ((op_inT hu).or (op_in_str.or (op_nin hu))))
  · exact op_notIn_seq.or ((op_notInD hu).or ((op_notInT hu).or (op_notIn_str.or (op_nnin hu))))
  · exact op_isBl.or op_isN
  · exact op_notBl.or op_notN
theorem opr_ix {o : O2} (hu : X.A.units + 65 < cLine) (h : o.sort = .idx) : IxR X (rd2 (X.prog, X.w) o X.K) := by
  cases o <;> cases h
  exact (ix_seq.or ix_dK).or (ix_dn hu)
end

section
variable {F : Fr} {G H : Hp} {σ : L2.St} {ρ : Sta} {Q : VK}
theorem atI_rel {K : PySem.W.Frag} {vs : List V} {ds : List D} {i : Int} {d : D} (h : RpA K G vs ds) (e : atI ds i = some d) : ∃ v, atI vs i = some v ∧ Rp K G v d := by
  unfold atI at e ⊢
  rw [h.length]
  cases q : ixN ds.length i with
  | none => rw [q] at e; cases e
  | some j => rw [q] at e; exact h.get e
theorem rep_rel {K : PySem.W.Frag} {vs : List V} {ds : List D} (h : RpA K G vs ds) : ∀ k : Nat, RpA K G (List.replicate k vs).flatten (List.replicate k ds).flatten
  | 0 => .nil
  | k + 1 => by
    rw [List.replicate_succ, List.replicate_succ, List.flatten_cons, List.flatten_cons]
    exact h.append (rep_rel h k)
/-- what an operator gives is handed on -/
abbrev Gv (F : Fr) (G H : Hp) (σ : L2.St) (ρ : Sta) (P : R → Prop) (Q : VK) : Prop := ∀ z v G' H', P z → Gw G H G' H' → RR F G' H' σ ρ v z → Q v H'
theorem Gv.fz {P : R → Prop} {d : D} {v : V} (r : Rl F G H σ ρ) (f : Gv F G H σ ρ P Q) (p : P (.fz d)) (q : Rp F.K G v d) : Q v H := f _ v G H p (Gw.refl r.sub) q
theorem Gv.tup {P : R → Prop} {ds : List D} {vs : List V} {p : Addr} (r : Rl F G H σ ρ) (f : Gv F G H σ ρ P Q) (pz : P (.fz (.tup ds))) (q : RpA F.K G vs ds) (hp : H p = none) : Q (.ref p) (upd H p (.tup vs)) :=
  f _ _ (upd G p (.tup vs)) _ pz (Gw.newF r.sub hp) (.tup (SqT.of upd_same) (q.mono (same_new (r.gnone hp))))
theorem Gv.lst {P : R → Prop} {ds : List D} {vs : List V} {p : Addr} (r : Rl F G H σ ρ) (f : Gv F G H σ ρ P Q) (pz : P (.ow (.lst ds))) (q : RpA F.K G vs ds) (hp : H p = none) : Q (.ref p) (upd H p (.lst vs)) :=
  f _ _ G _ pz (Gw.new r.sub hp) ⟨p, rfl, r.nw hp ⟨vs, upd_same, q⟩⟩
theorem Rp.non_iff {K : PySem.W.Frag} {v : V} {d : D} (h : Rp K G v d) (o : d.ok = true) : decide (v = V.non) = isNon d := by
  cases h with
  | opq v => rw [D.ok] at o; cases o
  | _ => rfl

theorem atI_map {α β : Type} {f : α → β} {xs : List α} {i : Int} : atI (xs.map f) i = (atI xs i).map f := by
  unfold atI
  rw [List.length_map]
  cases ixN xs.length i with
  | none => rfl
  | some j => simp
theorem lenNe_of {a b : D} (h : lenNe a b) : ∃ xs ys, a = .lst xs ∧ b = .lst ys ∧ xs.length ≠ ys.length := by
  unfold lenNe at h
  split at h
  · exact ⟨_, _, rfl, rfl, h⟩
  · exact h.elim
theorem pyA_len : ∀ xs : List D, (pyA xs).length = xs.length
  | [] => rfl
  | x :: xs => by rw [pyA, List.length_cons, List.length_cons, pyA_len xs]
theorem eqD_len {xs ys : List D} (h : xs.length ≠ ys.length) : eqD (.lst xs) (.lst ys) = false := by
  unfold eqD
  rw [D.py, D.py, PyData.eqv]
  exact SeqAt.eqvAll_other_length (by rw [pyA_len, pyA_len]; exact h)
theorem lift2 {W : Program × World} {o : O2} {x y : V} {a b : D} {P : R → Prop} (r : Rl F G H σ ρ) (ra : Ro F.K G H x a) (rb : Ro F.K G H y b) (h : sem2 W o a b P) (f : Gv F G H σ ρ P Q) : rd2 W o F.K x y H Q := by
  cases o with
  | add =>
    simp only [sem2] at h
    split at h
    · exact .inl ⟨_, _, ra.int, rb.int, f.fz r h (.int _)⟩
    · exact .inr (.inl ⟨_, _, ra.str, rb.str, h.1, f.fz r h.2 (.str _)⟩)
    · obtain ⟨p, vs, rfl, h1, h2⟩ := ra
      obtain ⟨q, ws, rfl, h3, h4⟩ := rb
      refine .inr (.inr (.inl ⟨p, q, vs, ws, rfl, rfl, h1, h3, ?_, fun l hl => f.lst r h.2 (h2.append h4) hl⟩))
      rw [h2.length, h4.length]; exact h.1
    · obtain ⟨p, vs, rfl, h1, h2, h1'⟩ := ra.tup r.sub
      obtain ⟨q, ws, rfl, h3, h4, h3'⟩ := rb.tup r.sub
      refine .inr (.inr (.inr ⟨p, q, vs, ws, rfl, rfl, h1, h3, by rw [h2.length, h4.length]; exact h.1, ?_, ?_, ?_⟩))
      · intro e
        subst e
        cases h2
        exact f.fz r (by simpa using h.2) (.tup h3' h4)
      · intro _ e
        subst e
        cases h4
        exact f.fz r (by simpa using h.2) (.tup h1' h2)
      · intro _ _ l hl
        exact f.tup r h.2 (h2.append h4) hl
    · exact h.elim
  | sub =>
    simp only [sem2] at h
    split at h
    · exact ⟨_, _, ra.int, rb.int, f.fz r h (.int _)⟩
    · exact h.elim
  | mul =>
    simp only [sem2] at h
    split at h
    · exact .inl ⟨_, _, ra.int, rb.int, h.1, f.fz r h.2 (.int _)⟩
    · obtain ⟨p, vs, rfl, h1, h2⟩ := ra
      refine .inr ⟨p, _, vs, rfl, rb.int, h1, h.1, h.2.1, by rw [h2.length]; exact h.2.2.1, fun l hl => f.lst r h.2.2.2 (rep_rel h2 _) hl⟩
    · exact h.elim
  | mod =>
    simp only [sem2] at h
    split at h
    · exact ⟨_, _, ra.int, rb.int, h.1, f.fz r h.2 (.int _)⟩
    · exact h.elim
  | fdiv =>
    simp only [sem2] at h
    split at h
    · exact ⟨_, _, ra.int, rb.int, h.1, f.fz r h.2 (.int _)⟩
    · exact h.elim
  | pow =>
    simp only [sem2] at h
    split at h
    · exact ⟨_, _, ra.int, rb.int, h.1, f.fz r h.2 (.int _)⟩
    · exact h.elim
  | eq =>
    rcases h with h | ⟨_, e, sm, h⟩
    case inr =>
      subst e
      exact .inr ⟨a, ra.rp r.sub, rb.rp r.sub, sm, f.fz r h (.bl _)⟩
    obtain ⟨h1, h2⟩ := h
    refine .inl ?_
    rcases h1 with ⟨fa, fb⟩ | ⟨ca, cb⟩ | hl
    · rw [ra.pf fa, rb.pf fb]
      exact .inl (eq_pf fa fb (f.fz r h2 (.bl _)))
    · exact .inl (.inr ⟨a.py, b.py, ra.dp r.sub ca, rb.dp r.sub cb, (cmp_of ca).2, (cmp_of cb).2, f.fz r h2 (.bl _)⟩)
    · obtain ⟨xs, ys, rfl, rfl, hl⟩ := lenNe_of hl
      obtain ⟨p, vs, rfl, q1, q2⟩ := ra
      obtain ⟨q, ws, rfl, q3, q4⟩ := rb
      rw [eqD_len hl] at h2
      exact .inr ⟨p, q, vs, ws, rfl, rfl, SqL.of q1, SqL.of q3, by rw [q2.length, q4.length]; exact hl, f.fz r h2 (.bl _)⟩
  | ne =>
    rcases h with h | ⟨h, _⟩
    case inr => cases h
    obtain ⟨h1, h2⟩ := h
    rcases h1 with ⟨fa, fb⟩ | ⟨ca, cb⟩ | hl
    · rw [ra.pf fa, rb.pf fb]
      exact .inl (ne_pf fa fb (f.fz r h2 (.bl _)))
    · exact .inl (.inr ⟨a.py, b.py, ra.dp r.sub ca, rb.dp r.sub cb, (cmp_of ca).2, (cmp_of cb).2, f.fz r h2 (.bl _)⟩)
    · obtain ⟨xs, ys, rfl, rfl, hl⟩ := lenNe_of hl
      obtain ⟨p, vs, rfl, q1, q2⟩ := ra
      obtain ⟨q, ws, rfl, q3, q4⟩ := rb
      rw [eqD_len hl] at h2
      exact .inr ⟨p, q, vs, ws, rfl, rfl, SqL.of q1, SqL.of q3, by rw [q2.length, q4.length]; exact hl, f.fz r h2 (.bl _)⟩
  | lt =>
    simp only [sem2, semCmp] at h
    split at h
    · exact ⟨_, _, ra.int, rb.int, f.fz r h (.bl _)⟩
    · exact h.elim
  | le =>
    simp only [sem2, semCmp] at h
    split at h
    · exact ⟨_, _, ra.int, rb.int, f.fz r h (.bl _)⟩
    · exact h.elim
  | gt =>
    simp only [sem2, semCmp] at h
    split at h
    · exact ⟨_, _, ra.int, rb.int, f.fz r h (.bl _)⟩
    · exact h.elim
  | ge =>
    simp only [sem2, semCmp] at h
    split at h
    · exact ⟨_, _, ra.int, rb.int, f.fz r h (.bl _)⟩
    · exact h.elim
  | isin =>
    simp only [sem2, semIn] at h
    split at h
    · rename_i xs
      obtain ⟨h1, h2⟩ := h
      rcases h1 with ⟨fa, fb⟩ | ⟨ca, cb⟩
      · obtain ⟨p, vs, rfl, e1, e2⟩ := rb
        refine .inl ⟨p, vs, rfl, .inl (SqL.of e1), by rw [ra.pf fa]; exact pf_flat fa, by rw [e2.pf fb]; exact pf_flatA fb, ?_⟩
        rw [ra.pf fa, e2.pf fb, inV_pf fa fb]
        exact f.fz r h2 (.bl _)
      · refine .inr (.inl ⟨a.py, pyA xs, ra.dp r.sub ca, ?_, (cmp_of ca).2, ?_, ?_⟩)
        · have q := rb.dp r.sub cb
          rwa [D.py] at q
        · have q := (cmp_of cb).2
          rwa [D.py] at q
        · rw [any_py]
          exact f.fz r h2 (.bl _)
    · rename_i xs
      obtain ⟨h1, h2⟩ := h
      rcases h1 with ⟨fa, fb⟩ | ⟨ca, cb⟩
      · obtain ⟨p, vs, rfl, e1, e2, _⟩ := rb.tup r.sub
        refine .inl ⟨p, vs, rfl, .inr e1, by rw [ra.pf fa]; exact pf_flat fa, by rw [e2.pf fb]; exact pf_flatA fb, ?_⟩
        rw [ra.pf fa, e2.pf fb, inV_pf fa fb]
        exact f.fz r h2 (.bl _)
      · have cb2 := (cmp_of cb).2
        rw [D.py] at cb2
        have ok2 := (cmp_of cb).1
        rw [D.ok] at ok2
        refine .inr (.inr (.inl ⟨a.py, pyA xs, ra.dp r.sub ca, ?_, (cmp_of ca).2, ?_, ?_⟩))
        · have q := (rb.rp r.sub).dp (by rw [D.ok]; exact ok2) (by rw [D.py, PyData.canLay0]; have := SeqAt.canLay_of_shaped cb2; rwa [PyData.canLay0] at this)
          rwa [D.py] at q
        · rw [shaped_tup]; exact cb2
        · rw [any_py]
          exact f.fz r h2 (.bl _)
    · split at h
      · exact .inr (.inr (.inr (.inl ⟨_, _, ra.str, rb.str, f.fz r h (.bl _)⟩)))
      · exact h.elim
    · split at h
      · obtain ⟨rfl, k, h1, h2, h3⟩ := h
        obtain ⟨a0, xs0, rfl, e1, e2⟩ := rb
        obtain ⟨b0, vs0, rfl, e3, e4, e5⟩ := ra.tup r.sub
        exact .inr (.inr (.inr (.inr ⟨b0, a0, xs0, _, _, k, rfl, rfl, e1, e2.mono r.sub, .tup e3 (e4.mono r.sub), h1, h2, f.fz r h3 (.bl _)⟩)))
      · exact h.elim
    · exact h.elim
  | notin =>
    simp only [sem2, semIn] at h
    split at h
    · rename_i xs
      obtain ⟨h1, h2⟩ := h
      rcases h1 with ⟨fa, fb⟩ | ⟨ca, cb⟩
      · obtain ⟨p, vs, rfl, e1, e2⟩ := rb
        refine .inl ⟨p, vs, rfl, .inl (SqL.of e1), by rw [ra.pf fa]; exact pf_flat fa, by rw [e2.pf fb]; exact pf_flatA fb, ?_⟩
        rw [ra.pf fa, e2.pf fb, inV_pf fa fb]
        exact f.fz r h2 (.bl _)
      · refine .inr (.inl ⟨a.py, pyA xs, ra.dp r.sub ca, ?_, (cmp_of ca).2, ?_, ?_⟩)
        · have q := rb.dp r.sub cb
          rwa [D.py] at q
        · have q := (cmp_of cb).2
          rwa [D.py] at q
        · rw [any_py]
          exact f.fz r h2 (.bl _)
    · rename_i xs
      obtain ⟨h1, h2⟩ := h
      rcases h1 with ⟨fa, fb⟩ | ⟨ca, cb⟩
      · obtain ⟨p, vs, rfl, e1, e2, _⟩ := rb.tup r.sub
        refine .inl ⟨p, vs, rfl, .inr e1, by rw [ra.pf fa]; exact pf_flat fa, by rw [e2.pf fb]; exact pf_flatA fb, ?_⟩
        rw [ra.pf fa, e2.pf fb, inV_pf fa fb]
        exact f.fz r h2 (.bl _)
      · have cb2 := (cmp_of cb).2
        rw [D.py] at cb2
        have ok2 := (cmp_of cb).1
        rw [D.ok] at ok2
        refine .inr (.inr (.inl ⟨a.py, pyA xs, ra.dp r.sub ca, ?_, (cmp_of ca).2, ?_, ?_⟩))
        · have q := (rb.rp r.sub).dp (by rw [D.ok]; exact ok2) (by rw [D.py, PyData.canLay0]; have := SeqAt.canLay_of_shaped cb2; rwa [PyData.canLay0] at this)
          rwa [D.py] at q
        · rw [shaped_tup]; exact cb2
        · rw [any_py]
          exact f.fz r h2 (.bl _)
    · split at h
      · exact .inr (.inr (.inr (.inl ⟨_, _, ra.str, rb.str, f.fz r h (.bl _)⟩)))
      · exact h.elim
    · split at h
      · obtain ⟨rfl, k, h1, h2, h3⟩ := h
        obtain ⟨a0, xs0, rfl, e1, e2⟩ := rb
        obtain ⟨b0, vs0, rfl, e3, e4, e5⟩ := ra.tup r.sub
        exact .inr (.inr (.inr (.inr ⟨b0, a0, xs0, _, _, k, rfl, rfl, e1, e2.mono r.sub, .tup e3 (e4.mono r.sub), h1, h2, f.fz r h3 (.bl _)⟩)))
      · exact h.elim
    · exact h.elim
  | is =>
    simp only [sem2] at h
    split at h
    · exact .inl ⟨_, _, ra.bl, rb.bl, f.fz r h (.bl _)⟩
    · refine .inr ⟨rb.non, ?_⟩
      have e := (ra.rp r.sub).non_iff h.1
      show Q (.bl (decide (x = V.non))) H
      rw [e]
      exact f.fz r h.2 (.bl _)
    · exact h.elim
  | isnot =>
    simp only [sem2] at h
    split at h
    · exact .inl ⟨_, _, ra.bl, rb.bl, f.fz r h (.bl _)⟩
    · refine .inr ⟨rb.non, ?_⟩
      have e := (ra.rp r.sub).non_iff h.1
      show Q (.bl (!decide (x = V.non))) H
      rw [e]
      exact f.fz r h.2 (.bl _)
    · exact h.elim
  | ix =>
    simp only [sem2] at h
    split at h
    · obtain ⟨d, e, q⟩ := h
      obtain ⟨p, vs, rfl, h1, h2⟩ := ra
      obtain ⟨v, e1, e2⟩ := atI_rel h2 e
      exact .inl (.inl (.inl ⟨p, vs, _, v, rfl, rb.int, SqL.of h1, e1, f.fz r q e2⟩))
    · obtain ⟨d, e, q⟩ := h
      obtain ⟨p, vs, rfl, h1, h2, _⟩ := ra.tup r.sub
      obtain ⟨v, e1, e2⟩ := atI_rel h2 e
      exact .inl (.inl (.inr (.inl ⟨p, vs, _, v, rfl, rb.int, h1, e1, f.fz r q e2⟩)))
    · obtain ⟨d, e, q⟩ := h
      have ra : Rp F.K G _ (.scr _ _) := ra
      cases ra with
      | scr h1 =>
        obtain ⟨v, e1, e2⟩ := atI_rel (RpA.ints (K := F.K) (G := G) _) (show atI (List.map D.int _) _ = some (.int d) by rw [atI_map, e]; rfl)
        exact .inl (.inl (.inl ⟨_, _, _, v, rfl, rb.int, same_sqL r.sub h1, e1, f.fz r q e2⟩))
    · obtain ⟨d, e, q⟩ := h
      obtain ⟨p, kvs, rfl, h1, h2⟩ := ra
      obtain ⟨v, e1, e2⟩ := h2.val e
      exact .inl (.inr ⟨p, kvs, .inr _, v, rfl, h1, rb.str, e1, f.fz r q e2⟩)
    · obtain ⟨d, e, q⟩ := h
      obtain ⟨p, kvs, rfl, h1, h2⟩ := ra
      obtain ⟨v, e1, e2⟩ := h2.val e
      exact .inl (.inr ⟨p, kvs, .inl _, v, rfl, h1, rb.int, e1, f.fz r q e2⟩)
    · obtain ⟨l, c, e, q⟩ := h
      exact .inl (.inl (.inr (.inr ⟨_, _, c, ra.str, rb.int, l, e, f.fz r q (.str _)⟩)))
    · obtain ⟨rfl, k, d, h1, h2, h3, q⟩ := h
      obtain ⟨a0, xs0, rfl, e1, e2⟩ := ra
      obtain ⟨p, v, e5, e6, e7⟩ := atKey_val e2 h3
      obtain ⟨b0, vs0, rfl, e3, e4, _⟩ := rb.tup r.sub
      exact .inr ⟨a0, b0, xs0, _, _, k, p, v, rfl, rfl, e1, e2.mono r.sub, .tup e3 (e4.mono r.sub), h1, h2, e5, e6, f.fz r q e7⟩
    · exact h.elim
end
end DI

set_option Elab.async false
set_option linter.all false
set_option autoImplicit false
set_option maxRecDepth 100000
set_option maxHeartbeats 1000000
/-! DI2c: repr of data; the built-in calls and the methods that change a list. -/
namespace DI
open PySem PySem.Spec PyProof.Rows L2

section
variable {X : Cx} {pins : List (Addr × Obj)} {σ : L2.St} {H : Hp} {s : Shared}
theorem key_reads {h : Heap} {k : Key} {u : Value} (e : keyIs k u = true) : Reads h u (kD k).py [] := by
  rcases keyIs_shape e with ⟨i, t, rfl, rfl⟩ | ⟨x, t, rfl, rfl⟩
  · rw [kD, D.py]; exact .int i t
  · rw [kD, D.py]; exact .str x t
theorem fst_pyK : ∀ ds : List (D × D), (pyK ds).map (·.1) = ds.map fun p => p.1.py
  | [] => by rw [pyK]; rfl
  | (a, b) :: r => by rw [pyK, List.map_cons, List.map_cons, fst_pyK r]
theorem snd_pyK : ∀ ds : List (D × D), (pyK ds).map (·.2) = ds.map fun p => p.2.py
  | [] => by rw [pyK]; rfl
  | (a, b) :: r => by rw [pyK, List.map_cons, List.map_cons, snd_pyK r]
/-- what is tracked is not the table of modules -/
theorem not_sys (I : Inv X pins σ H s) (sm : ∃ o, X.base.get? sysModules = some o) {a : Addr} {o : HO} (h : H a = some o) : sysModules ≠ a := fun e => by
  obtain ⟨ob, q⟩ := sm
  have := (I.bs _ _ q).2
  rw [e, h] at this
  cases this
mutual
theorem Rp.reads (I : Inv X pins σ H s) (sm : ∃ o, X.base.get? sysModules = some o) : ∀ {v : V} {d : D} {u : Value}, Rp X.K H v d → d.ok = true → RelV v u → ∃ as, Reads s.heap u d.py as ∧ sysModules ∉ as
  | _, _, u, .non, _, r => by
    cases r; rw [D.py]; exact ⟨[], .none, by simp⟩
  | _, _, u, .bl b, _, r => by
    cases r; rw [D.py]; exact ⟨[], .bool b, by simp⟩
  | _, _, u, .int i, _, r => by
    obtain ⟨t, rfl⟩ := r; rw [D.py]; exact ⟨[], .int i t, by simp⟩
  | _, _, u, .str i, _, r => by
    obtain ⟨t, rfl⟩ := r; rw [D.py]; exact ⟨[], .str i t, by simp⟩
  | _, _, u, .lst (a := a) h q, o, r => by
    cases r
    rw [D.ok] at o
    rw [D.py]
    obtain ⟨its, rv, ⟨ob, n, ho, hc, hd, hdt⟩, _⟩ := I.list (SqL.of (K := X.K) h)
    obtain ⟨as, h1, h2⟩ := RpA.reads I sm q o rv
    refine ⟨a :: as, .list ho hc hdt (by simpa using h1), ?_⟩
    rw [List.mem_cons, not_or]
    exact ⟨not_sys I sm h, h2⟩
  | _, _, u, .tup (a := a) h q, o, r => by
    cases r
    rw [D.ok] at o
    rw [D.py]
    obtain ⟨its, rv, ⟨ob, ho, hc, n, hdt⟩, _⟩ := I.tuple h
    obtain ⟨as, h1, h2⟩ := RpA.reads I sm q o rv
    exact ⟨as, .tuple ho hc hdt (by simpa using h1), h2⟩
  | _, _, u, .dct (a := a) h q, o, r => by
    cases r
    rw [D.ok] at o
    rw [D.py]
    obtain ⟨_, hy, vs, kv, ob, es, ep, ho, he, hdt, _, hp, _⟩ := (show ObjOk X.prog X.w H s.heap a (.dK _) from h.ok I.hok)
    obtain ⟨as, bs, h1, h2, h3, h4⟩ := RpK.reads I sm q o kv hp
    refine ⟨a :: as ++ bs, .dict ho he.1 hdt ?_ ?_, ?_⟩
    · rw [fst_pyK]; exact h1
    · rw [snd_pyK]; exact h2
    · rw [List.cons_append, List.mem_cons, not_or, List.mem_append, not_or]
      exact ⟨fun e => (by rw [← e] at hy; simp at hy), h3, h4⟩
  | _, _, u, .dci (a := a) h q, o, r => by
    cases r
    rw [D.ok] at o
    rw [D.py]
    obtain ⟨_, hy, vs, kv, ob, es, ep, ho, he, hdt, _, hp, _⟩ := (show ObjOk X.prog X.w H s.heap a (.dK _) from h.ok I.hok)
    obtain ⟨as, bs, h1, h2, h3, h4⟩ := RpK.reads I sm q o kv hp
    refine ⟨a :: as ++ bs, .dict ho he.1 hdt ?_ ?_, ?_⟩
    · rw [fst_pyK]; exact h1
    · rw [snd_pyK]; exact h2
    · rw [List.cons_append, List.mem_cons, not_or, List.mem_append, not_or]
      exact ⟨fun e => (by rw [← e] at hy; simp at hy), h3, h4⟩
  | _, _, u, .opq v, o, r => by
    rw [D.ok] at o; cases o
  | _, _, u, .scr _, o, r => by
    rw [D.ok] at o; cases o
  | _, _, u, .dcn _ _, o, r => by
    rw [D.ok] at o; cases o
theorem RpA.reads (I : Inv X pins σ H s) (sm : ∃ o, X.base.get? sysModules = some o) : ∀ {vs : List V} {ds : List D} {us : List Value}, RpA X.K H vs ds → okA ds = true → Vals vs us → ∃ as, ReadsAll s.heap us (pyA ds) as ∧ sysModules ∉ as
  | _, _, _, .nil, _, r => by
    cases r; rw [pyA]; exact ⟨[], .nil, by simp⟩
  | _, _, _, .cons h q, o, r => by
    cases r with
    | cons r1 r2 =>
      rw [okA, Bool.and_eq_true] at o
      rw [pyA]
      obtain ⟨as, h1, h2⟩ := Rp.reads I sm h o.1 r1
      obtain ⟨bs, h3, h4⟩ := RpA.reads I sm q o.2 r2
      exact ⟨as ++ bs, .cons h1 h3, by rw [List.mem_append, not_or]; exact ⟨h2, h4⟩⟩
theorem RpK.reads (I : Inv X pins σ H s) (sm : ∃ o, X.base.get? sysModules = some o) : ∀ {kvs : List (Key × V)} {ds : List (D × D)} {vs : List (Key × Value)} {es : List DictEntry}, RpK X.K H kvs ds → okK ds = true → KV kvs vs → Pairs (mixKind X.prog X.w) es vs →
    ∃ as bs, ReadsAll s.heap (es.map (·.key)) (ds.map fun p => p.1.py) as ∧ ReadsAll s.heap (es.map (·.val)) (ds.map fun p => p.2.py) bs ∧ sysModules ∉ as ∧ sysModules ∉ bs
  | _, _, _, _, .nil, _, kv, pr => by
    cases kv; cases pr; exact ⟨[], [], .nil, .nil, by simp, by simp⟩
  | _, _, _, _, .cons h q, o, kv, pr => by
    rw [okK, Bool.and_eq_true, Bool.and_eq_true] at o
    cases kv with
    | cons k1 k2 =>
      cases pr with
      | cons p1 p2 p3 =>
        obtain ⟨e1, e2⟩ := k1
        obtain ⟨as, bs, h1, h2, h3, h4⟩ := RpK.reads I sm q o.2 k2 p3
        obtain ⟨cs, h5, h6⟩ := Rp.reads I sm h o.1.2 e2
        refine ⟨[] ++ as, cs ++ bs, ?_, ?_, by simpa using h3, by rw [List.mem_append, not_or]; exact ⟨h6, h4⟩⟩
        · rw [List.map_cons, List.map_cons]
          refine .cons (key_reads ?_) h1
          have e1' := e1
          simp only at e1'
          rw [e1']
          exact p1
        · rw [List.map_cons, List.map_cons]
          refine .cons ?_ h2
          rw [p2]
          exact h5
end
end
section
variable {X : Cx}
def rRepr (K : PySem.W.Frag) : List V → Hp → VK → Prop := fun xs H Q => ∃ v d, xs = [v] ∧ Rp K H v d ∧ d.shw = true ∧ Q (.str d.py.shown) H
theorem call_reprD (hg : X.A.guards = some []) (hu : X.A.units + 65 < cLine) (sm : ∃ o, X.base.get? sysModules = some o) : CallR X (.builtin "repr") (rRepr X.K) := by
  intro pins s σ H xs us Q I r ⟨v, d, e, h, hs, q⟩
  subst e
  obtain ⟨u, rfl, rx⟩ := vals1 r
  unfold D.shw at hs
  simp only [Bool.and_eq_true, decide_eq_true_eq] at hs
  obtain ⟨⟨⟨h1, h2⟩, h3⟩, h4⟩ := hs
  cases h with
  | scr _ => rw [D.ok] at h1; cases h1
  | dcn _ _ => rw [D.ok] at h1; cases h1
  | non =>
    cases rx
    rw [D.py, PyData.shown] at q
    exact PySem.P.repr_of_none ⟨.str "None", H, I.tok _, ⟨_, rfl⟩, q⟩
  | bl b =>
    cases rx
    rw [D.py, PyData.shown] at q
    exact PySem.P.repr_of_bool ⟨.str _, H, I.tok _, ⟨_, rfl⟩, q⟩
  | int i =>
    obtain ⟨t, rfl⟩ := rx
    rw [D.py, PyData.shown] at q
    rw [D.py, PyData.showable, decide_eq_true_eq] at h2
    exact PySem.P.repr_of_int h2 ⟨.str _, H, I.tok _, ⟨_, rfl⟩, q⟩
  | str x =>
    obtain ⟨t, rfl⟩ := rx
    rw [D.py, PyData.shown] at q h4
    exact PySem.P.repr_of_str ⟨.str _, H, I.tok _, ⟨_, rfl⟩, q⟩ h4
  | lst ha ra =>
    obtain ⟨as, h5, h6⟩ := Rp.reads I sm (.lst ha ra) h1 rx
    cases rx
    exact repr_of_reads' h5 h2 (fun _ => h6) hg (by omega) (fun _ _ e => e) (fun h' u tk hk => ⟨.str _, H, I.kept hk, ⟨_, rfl⟩, q⟩) h4
  | tup ha ra =>
    obtain ⟨as, h5, h6⟩ := Rp.reads I sm (.tup ha ra) h1 rx
    cases rx
    exact repr_of_reads' h5 h2 (fun _ => h6) hg (by omega) (fun _ _ e => e) (fun h' u tk hk => ⟨.str _, H, I.kept hk, ⟨_, rfl⟩, q⟩) h4
  | dct ha ra =>
    obtain ⟨as, h5, h6⟩ := Rp.reads I sm (.dct ha ra) h1 rx
    cases rx
    exact repr_of_reads' h5 h2 (fun _ => h6) hg (by omega) (fun _ _ e => e) (fun h' u tk hk => ⟨.str _, H, I.kept hk, ⟨_, rfl⟩, q⟩) h4
  | dci ha ra =>
    obtain ⟨as, h5, h6⟩ := Rp.reads I sm (.dci ha ra) h1 rx
    cases rx
    exact repr_of_reads' h5 h2 (fun _ => h6) hg (by omega) (fun _ _ e => e) (fun h' u tk hk => ⟨.str _, H, I.kept hk, ⟨_, rfl⟩, q⟩) h4
  | opq v => rw [D.ok] at h1; cases h1
end

/-! ### sorted of data that are alike, any number of them -/
section
variable {X : Cx} {pins : List (Addr × Obj)} {σ : L2.St} {H : Hp} {s : Shared}
/-- a value that bears data -/
def Bears (K : PySem.W.Frag) (H : Hp) (u : Value) (d : D) : Prop := ∃ v, RelV v u ∧ Rp K H v d
theorem bears_all {K : PySem.W.Frag} : ∀ {vs : List V} {ds : List D} {us : List Value}, RpA K H vs ds → Vals vs us → PySem.W.EachIs (Bears K H) us ds
  | _, _, _, .nil, r => by cases r; exact .nil
  | _, _, _, .cons h q, r => by
    cases r with
    | cons r1 r2 => exact .cons ⟨_, r1, h⟩ (bears_all q r2)
theorem bears_out {K : PySem.W.Frag} : ∀ {us : List Value} {ds : List D}, PySem.W.EachIs (Bears K H) us ds → ∃ vs, Vals vs us ∧ RpA K H vs ds
  | _, _, .nil => ⟨[], .nil, .nil⟩
  | _, _, .cons ⟨v, h1, h2⟩ r => by
    obtain ⟨vs, h3, h4⟩ := bears_out r
    exact ⟨v :: vs, .cons h1 h3, .cons h2 h4⟩
theorem bears_reads (I : Inv X pins σ H s) (sm : ∃ o, X.base.get? sysModules = some o) : ∀ {us : List Value} {ds : List D}, PySem.W.EachIs (Bears X.K H) us ds → (∀ d ∈ ds, d.cmp = true ∧ d.ok = true) → PySem.W.EachIs (fun u d => ∃ as, Reads s.heap u d.py as) us ds
  | _, _, .nil, _ => .nil
  | _, _, .cons ⟨v, h1, h2⟩ r, ok => by
    obtain ⟨as, h3, _⟩ := Rp.reads I sm h2 (ok _ List.mem_cons_self).2 h1
    exact .cons ⟨as, h3⟩ (bears_reads I sm r fun d hd => ok d (List.mem_cons_of_mem _ hd))
theorem cmp_depth {d : D} (h : d.cmp = true) : d.py.depth ≤ 64 := by
  have := (cmp_of h).2
  unfold SeqAt.shaped at this
  rw [Bool.and_eq_true] at this
  first
    | exact of_decide_eq_true this.2
    | exact of_decide_eq_true this.1
theorem srtK_len (ds : List D) : (srtK ds).length = ds.length := by
  unfold srtK
  exact List.length_mergeSort _
def rSortedA (K : PySem.W.Frag) : List V → Hp → VK → Prop := fun vs H Q => ∃ (a : Addr) (xs : List V) (ds : List D) (G : Hp), vs = [V.ref a] ∧ SqL K H a xs ∧ Same G H ∧ RpA K G xs ds ∧ srtOk ds ∧ ds.length ≤ 65536 ∧
  ∀ ys p, RpA K G ys (srtK ds) → H p = none → Q (.ref p) (upd H p (.lst ys))
theorem cr_sortedA (hu : X.A.units + 70 < cLine) (sm : ∃ o, X.base.get? sysModules = some o) : CallR X (.builtin "sorted") (rSortedA X.K) := by
  intro pins s σ H vs us Q I r h
  obtain ⟨a, xs, ds, G, rfl, hs, sub, hr, ⟨o1, o2, o3⟩, hl, q⟩ := h
  obtain ⟨its, rv, pl, hz⟩ := I.list hs
  obtain ⟨u, rfl, ru⟩ := vals1 r
  cases ru
  have e := bears_all hr rv
  refine PySem.W.sorted_data (enc := D.py) pl.isList e (bears_reads I sm (e.mono fun _ _ ⟨v, x, y⟩ => ⟨v, x, y.mono sub⟩) o1) o2 o3 (by rw [sizeLine_eq]; omega) (fun d hd => by have := cmp_depth (o1 d hd).1; omega) fun out hol ho => ?_
  obtain ⟨ys, h1, h2⟩ := bears_out ho
  obtain ⟨n, hn⟩ := PyProof.Rows.sortedAll_at s.heap its out.toArray
  refine ⟨.ref (s.heap.objs.size + 1), upd H (s.heap.objs.size + 1) (.lst ys), I.laid (t' := s.toks) (fun b o e => PyProof.Rows.sortedAll_old e) (Nat.le_succ _) ⟨?_, out, n, h1, hn⟩, rfl, q ys _ h2 (I.hok.fresh (Nat.le_succ _))⟩
  rw [h1.length, hol, sizeLine_eq]
  omega
end
section
variable {prog : Program} {w : World} {d : Addr} {es : Array DictEntry} {ep : Nat}
/-- the keys of a dict, whatever they are, as a source of items -/
theorem raw_src (lo : (d == sysModules) = false) : PySem.W.KdlSrc prog w "dict" d d es.size (fun i v => ∃ hi : i < es.size, v = es[i].key) (fun h => h.DictRaw d es ep) where
  type := fun _ x => x.typeIs
  there := fun h x => by
    obtain ⟨o, ho, _⟩ := x
    exact ⟨Heap.lt_size ho, Heap.lt_size ho⟩
  keep := fun _ _ x k => x.at fun o e => k d (.inl rfl) o e
  notList := by decide
  notTuple := by decide
  hint := fun _ _ _ _ x q => PySem.W.kdl_hint_dict x.typeIs q
  iter := fun A s hh x => by
    have hlt : d < s.heap.objs.size := by
      obtain ⟨o, ho, _⟩ := x
      exact Heap.lt_size ho
    exact ⟨_, _, fun _ _ q => wpAny_pyIter_dict_raw lo x q, Walks.rawKeys hh _ d (Nat.ne_of_lt hlt) es ep, ⟨⟨_, Heap.get?_push_size _ rfl, rfl, rfl⟩, x.at fun o e => Heap.get?_push_of_some _ e⟩⟩
end
section
variable {X : Cx} {pins : List (Addr × Obj)} {σ : L2.St} {H : Hp} {s : Shared}
theorem bears_keys {K : PySem.W.Frag} : ∀ {xs : List (NestedKey × Addr × Value)} {ds : List (NestedKey × D × D)}, RpN K H xs ds → PySem.W.EachIs (Bears K H) (xs.map fun x => Value.ref x.2.1) (ds.map (·.2.1))
  | _, _, .nil => .nil
  | _, _, .cons (b := b) h1 h2 h3 h4 h5 r => .cons ⟨.ref b, rfl, h1⟩ (bears_keys r)
def rSortedN (W : Program × World) (K : PySem.W.Frag) : List V → Hp → VK → Prop := fun vs H Q => ∃ (a : Addr) (xs : List (NestedKey × Addr × Value)) (ds : List (NestedKey × D × D)) (G : Hp), vs = [V.ref a] ∧ H a = some (DnO W a xs) ∧ Same G H ∧ RpN K G xs ds ∧ srtOk (ds.map (·.2.1)) ∧ ds.length ≤ 65536 ∧
  ∀ ys p, RpA K G ys (srtK (ds.map (·.2.1))) → H p = none → Q (.ref p) (upd H p (.lst ys))
theorem cr_sortedN (hc : X.calm = true) (hu : X.A.units + 70 < cLine) (sm : ∃ o, X.base.get? sysModules = some o) : CallR X (.builtin "sorted") (rSortedN (X.prog, X.w) X.K) := by
  intro pins s σ H vs us Q I r h
  obtain ⟨a, xs, ds, G, rfl, ha, sub, hr, ⟨o1, o2, o3⟩, hl, q⟩ := h
  obtain ⟨u, rfl, ru⟩ := vals1 r
  cases ru
  obtain ⟨z, lo, dd⟩ := dn_of I ha (hr.mono sub)
  obtain ⟨es, ep, raw, hsz, ent⟩ := dd.raw
  have hxl : xs.length = ds.length := by
    have := (bears_keys hr).length
    rw [List.length_map, List.length_map] at this
    exact this
  have hse : es.size ≤ sizeLine := by rw [hsz]; exact z
  refine PySem.Calls.call_function_entry kind_sorted plain_sorted entry_sorted (args_sorted1 (.ref a)) ?_
  unfold Builtin.«sorted»
  refine wpAny_bind (m := checkCount "sorted" 1 1 (_ : Nat)) (wpAny_pure ?_)
  refine wpAny_bind (PySem.W.kdu_collect (A := X.A.in1) (raw_src lo) (I.ok.hd hc) raw hse fun h' tk acc kp it => ?_)
  have hal : acc.toList.length = es.size := by rw [Array.length_toList]; exact it.1
  have eacc : acc.toList = xs.map fun x => Value.ref x.2.1 := by
    refine List.ext_getElem? fun j => ?_
    by_cases hj : j < es.size
    · have hja : j < acc.toList.length := by rw [hal]; exact hj
      have hv : acc[j]? = some acc.toList[j] := by rw [← Array.getElem?_toList]; exact List.getElem?_eq_getElem hja
      obtain ⟨_, e1⟩ := it.2 j _ hv
      obtain ⟨y, e2, e3, _⟩ := ent j hj
      rw [List.getElem?_eq_getElem hja, e1, e3, List.getElem?_map, e2]
      rfl
    · rw [List.getElem?_eq_none (by omega), List.getElem?_eq_none (by rw [List.length_map]; omega)]
  have I1 : Inv X pins σ H { s with heap := h', toks := tk } := I.kept kp
  refine wpAny_bind (wpAny_newList ?_ (by rw [hal]; exact hse))
  have e := bears_keys hr
  rw [← eacc] at e
  generalize hL : acc.toList = L at e hal ⊢
  have hat : (h'.push (seqObj "list" L.toArray 0)).get? h'.objs.size = some (seqObj "list" L.toArray 0) := Heap.get?_push_size _ rfl
  have old : ∀ b o, h'.get? b = some o → (PySem.W.sortingHeap (h'.push (seqObj "list" L.toArray 0)) h'.objs.size L).get? b = some o := fun b o q =>
    PySem.W.sortingHeap_old (Nat.ne_of_lt (Heap.lt_size q)) (Heap.get?_push_of_some _ q)
  have er : PySem.W.EachIs (fun v d => ∃ as, Reads (PySem.W.sortingHeap (h'.push (seqObj "list" L.toArray 0)) h'.objs.size L) v d.py as) L (ds.map (·.2.1)) :=
    (bears_reads I1 sm (e.mono fun _ _ ⟨v, x, y⟩ => ⟨v, x, y.mono sub⟩) o1).mono fun _ _ ⟨as, x⟩ => ⟨as, PyProof.Rows.Reads.keeps old x⟩
  have bnd : ∀ d, d ∈ (ds.map (·.2.1)).map D.py → X.A.in1.units + 1 + d.depth < cLine := fun d hd => by
    obtain ⟨y, hy, rfl⟩ := List.mem_map.mp hd
    have := cmp_depth (o1 y hy).1
    have e1 : X.A.in1.units = X.A.units + 1 := rfl
    omega
  refine wpAny_bind (wpAny_holding (wpAny_call_entry slot_list_sort ⟨_, hat, rfl⟩ entry_list_sort (PySem.W.list_sort_vals (κ := PySem.W.dataKind _ ((ds.map (·.2.1)).map D.py)) hat
    (PySem.W.SortsAt.data (PySem.W.each_map (R := fun v d => ∃ as, Reads _ v d as) D.py er) o2 o3 bnd) (by rw [hal]; exact hse) ⟨.none, rfl, ?_⟩) (args_list_sort _)))
  obtain ⟨ys, h1, h2⟩ := bears_out (PySem.W.sortVals_data false e er o2)
  have hyl : ys.length ≤ sizeLine := by
    have e1 := h2.length
    have e2 := srtK_len (ds.map (·.2.1))
    unfold srtK at e2
    rw [e1, e2, List.length_map, sizeLine_eq]
    omega
  obtain ⟨n, hn⟩ := PyProof.Rows.sortedHeap_at (vs := L) (out := (PySem.W.sortVals (PySem.W.dataKind (PySem.W.sortingHeap (h'.push (seqObj "list" L.toArray 0)) h'.objs.size L) ((ds.map (·.2.1)).map D.py)) false L L).toArray) hat
  refine wpAny_pure ⟨_, rfl, .ref h'.objs.size, upd H h'.objs.size (.lst ys), I1.laid (t' := tk) (fun b o q => ?_) (Nat.le_refl _) ⟨hyl, _, n, h1, hn⟩, rfl, q ys _ h2 (I1.hok.fresh (Nat.le_refl _))⟩
  have hb := Heap.lt_size q
  show (PyProof.Rows.sortedHeap (h'.push (seqObj "list" L.toArray 0)) h'.objs.size L _).get? b = some o
  rw [PyProof.Rows.sortedHeap_old (Nat.ne_of_lt hb) (by rw [size_push']; exact Nat.lt_succ_of_lt hb)]
  exact Heap.get?_push_of_some _ q
end
/-! ### built-in calls -/
abbrev RC := List V → Hp → VK → Prop
def rDictP (K : PySem.W.Frag) : RC := fun xs H Q => ∃ (a : Addr) (ps : List Addr) (kvs : List (Key × V)), xs = [.ref a] ∧ SqL K H a (ps.map V.ref) ∧ Paired (fun p kv => SqT K H p [kV kv.1, kv.2]) ps kvs ∧
    ∀ p, H p = none → Q (.ref p) (upd H p (.dK (mergeK [] kvs)))
def rDictD : RC := fun xs H Q => ∃ (a : Addr) (kvs : List (Key × V)), xs = [.ref a] ∧ Rd H a (.dK kvs) ∧ ∀ p, H p = none → Q (.ref p) (upd H p (.dK kvs))
def rSortedDK : RC := fun xs H Q => ∃ (a : Addr) (kvs : List (Key × V)) (ks : List Str), xs = [.ref a] ∧ Rd H a (.dK kvs) ∧ kvs.map (·.1) = ks.map Sum.inr ∧ ks.length < 64 ∧
    ∀ ys p, ys.Perm ks → sortedS ys = true → H p = none → Q (.ref p) (upd H p (.lst (ys.map V.str)))
def rB (b : B1) (K : PySem.W.Frag) : RC := match b with
  | .len => fun xs H Q => (∃ p ys, xs = [.ref p] ∧ (SqL K H p ys ∨ SqT K H p ys) ∧ Q (.int ys.length) H) ∨ (∃ z, xs = [.str z] ∧ z.length ≤ sizeLine ∧ Q (.int z.length) H) ∨ ∃ a kvs, xs = [V.ref a] ∧ Rd H a (.dK kvs) ∧ Q (.int kvs.length) H
  | .abs => fun xs H Q => ∃ i, xs = [.int i] ∧ Q (.int (if i < 0 then -i else i)) H
  | .int => fun xs H Q => (∃ i, xs = [.int i] ∧ Q (.int i) H) ∨ ∃ k, xs = [.bl k] ∧ Q (.int (if k then 1 else 0)) H
  | .str => fun xs H Q => ∃ i, xs = [.int i] ∧ i.natAbs.log2 < 1920 ∧ Q (.str (toString i)) H
  | .list => fun xs H Q => ∃ p ys, xs = [.ref p] ∧ (SqL K H p ys ∨ SqT K H p ys) ∧ ∀ l, H l = none → Q (.ref l) (upd H l (.lst ys))
  | .tuple => fun xs H Q => ∃ p ys, xs = [.ref p] ∧ ((SqL K H p ys ∧ ∀ l, H l = none → Q (.ref l) (upd H l (.tup ys))) ∨ (SqT K H p ys ∧ Q (.ref p) H))
  | .sorted => fun xs H Q => ((rSortedS K xs H Q ∨ rSorted K xs H Q) ∨ rSortedDK xs H Q) ∨ rSortedA K xs H Q
  | .repr => rRepr K
  | .all => rAll K
  | .any => rAny K
  | .sum => rSum K
  | .isi => fun xs H Q => rIsi K xs H Q ∨ rIsiS K xs H Q
  | .dict => fun xs H Q => rDictP K xs H Q ∨ rDictD xs H Q
  | .min => fun xs H Q => (∃ i j, xs = [.int i, .int j] ∧ Q (.int (if j < i then j else i)) H) ∨ rMin K xs H Q
  | .max => fun xs H Q => ∃ i j, xs = [.int i, .int j] ∧ Q (.int (if j > i then j else i)) H
inductive BV where
  | bi (id : String)
  | ty (id : String)
def B1.val : B1 → BV
  | .len => .bi "len"
  | .abs => .bi "abs"
  | .int => .ty "int"
  | .str => .ty "str"
  | .list => .ty "list"
  | .tuple => .ty "tuple"
  | .sorted => .bi "sorted"
  | .repr => .bi "repr"
  | .all => .bi "all"
  | .any => .bi "any"
  | .sum => .bi "sum"
  | .isi => .bi "isinstance"
  | .dict => .ty "dict"
  | .min => .bi "min"
  | .max => .bi "max"
def BV.value : BV → Value
  | .bi id => .builtin id
  | .ty id => .type id
structure Good (X : Cx) : Prop where
  calm : X.calm = true
  units : X.A.units + 65 < cLine
  sys : ∃ o, X.base.get? sysModules = some o
  un2 : X.A.units + 75 < cLine
def B1.isRepr : B1 → Bool
  | .repr => true
  | _ => false
theorem callr {X : Cx} (g : Good X) : ∀ b : B1, (b.isRepr = true → X.A.guards = some []) → CallR X b.val.value (rB b X.K)
  | .len, _ => call_len_seq.or (call_len_str.or call_lenDR)
  | .abs, _ => call_abs
  | .int, _ => call_int1
  | .str, _ => call_str_int
  | .list, _ => call_list_of
  | .tuple, _ => call_tuple_of
  | .sorted, _ => ((cr_sortedS.or cr_sorted).or (call_sortedD g.calm)).or (cr_sortedA (by have := g.un2; omega) g.sys)
  | .repr, hg => call_reprD (hg rfl) g.units g.sys
  | .all, _ => cr_all g.calm
  | .any, _ => cr_any g.calm
  | .sum, _ => cr_sum g.calm
  | .isi, _ => call_isi.or call_isiS
  | .dict, _ => (call_dictP g.calm).or call_dictD
  | .min, _ => (call_min2 g.calm).or (cr_min g.calm)
  | .max, _ => call_max2 g.calm
end DI

set_option Elab.async false
set_option linter.all false
set_option autoImplicit false
set_option maxRecDepth 100000
set_option maxHeartbeats 1000000
/-! DI2d: the built-in calls and the methods over data, led back. -/
namespace DI
open PySem PySem.Spec PyProof.Rows L2
section
variable {K : PySem.W.Frag} {G H : Hp}
theorem RpA.bl_of {vs : List V} {ns : List Bool} (h : RpA K G vs (ns.map D.bl)) : vs = ns.map V.bl := by
  induction ns generalizing vs with
  | nil => cases h; rfl
  | cons n ns ih =>
    cases h with
    | cons a b => cases a; rw [ih b]; rfl
inductive RoA (K : PySem.W.Frag) (G H : Hp) : List V → List D → Prop
  | nil : RoA K G H [] []
  | cons {v : V} {d : D} {vs : List V} {ds : List D} : Ro K G H v d → RoA K G H vs ds → RoA K G H (v :: vs) (d :: ds)
theorem RoA.one {vs : List V} {d : D} (h : RoA K G H vs [d]) : ∃ v, vs = [v] ∧ Ro K G H v d := by
  cases h with
  | cons a b => cases b; exact ⟨_, rfl, a⟩
theorem RoA.two {vs : List V} {d e : D} (h : RoA K G H vs [d, e]) : ∃ v c, vs = [v, c] ∧ Ro K G H v d ∧ Ro K G H c e := by
  cases h with
  | cons a b => cases b with
    | cons c b => cases b; exact ⟨_, _, rfl, a, c⟩
theorem ty_of {v : V} {d : D} {t : String} (h : d.tyn = some t) (ra : Ro K G H v d) (s : Same G H) : TyX K H v (.type t) := by
  cases d with
  | non => cases h; rw [ra.non]; exact .base .non
  | bl b => cases h; rw [ra.bl]; exact .base (.bl b)
  | int b => cases h; rw [ra.int]; exact .base (.int b)
  | str b => cases h; rw [ra.str]; exact .base (.str b)
  | lst xs => cases h; obtain ⟨a, vs, rfl, h1, _⟩ := ra; exact .base (.lst h1)
  | tup xs =>
    cases h
    obtain ⟨a, vs, rfl, h1, _⟩ := ra.tup s
    rcases h1 with (h1 | ⟨o, h1⟩) | ⟨o, its, n, hk, hc, _⟩
    · exact .base (.tup h1)
    · exact .fTuple h1
    · exact .kTuple hk hc
  | dct xs =>
    cases h
    obtain ⟨a, vs, rfl, h1, _⟩ := ra
    rcases h1 with h1 | ⟨o, h1⟩
    · exact .base (.dK h1)
    · exact .fDict h1
  | dci b xs =>
    cases h
    have ra : Rp K G v (.dci b xs) := ra
    cases ra with
    | dci h1 _ =>
      rcases same_rd s h1 with h1 | ⟨o, h1⟩
      · exact .base (.dK h1)
      · exact .fDict h1
  | scr b ns =>
    cases h
    have ra : Rp K G v (.scr b ns) := ra
    cases ra with
    | scr h1 =>
      rcases same_sqL s h1 with (h1 | ⟨o, h1⟩) | ⟨o, its, n, hk, hc, _⟩
      · exact .base (.lst h1)
      · exact .base (.frz h1)
      · exact .kList hk hc
  | opq _ => cases h
  | dcn _ _ => cases h
theorem opqs_of {vs : List V} {ns : List String} (h : RpA K G vs (ns.map fun n => D.opq (.ty n))) : vs = ns.map V.ty := by
  induction ns generalizing vs with
  | nil => cases h; rfl
  | cons n ns ih =>
    rw [List.map_cons] at h
    cases h with
    | cons a b => cases a; rw [ih b]; rfl
theorem cls_tys : ∀ ns : List String, Paired ClsV (ns.map V.ty) (ns.map Value.type)
  | [] => .nil
  | n :: ns => .cons (.ty n) (cls_tys ns)
theorem isiA_kit {d : D} {t : String} (ht : d.tyn = some t) : ∀ {ns : List String} {b : Bool}, isiA d ns = some b → PySem.W.kitAny K (.type t) (ns.map Value.type) = some b
  | [], b, e => by cases e; rfl
  | n :: ns, b, e => by
    have e0 : isiB d n = kitB t n := by unfold isiB; rw [ht]; rfl
    rw [isiA, e0] at e
    cases hk : kitB t n with
    | none => rw [hk] at e; cases e
    | some c =>
      rw [hk] at e
      rw [List.map_cons]
      cases c with
      | true => cases e; exact kitAny_cons (kit_ty hk) (fun z => nomatch z) fun _ => rfl
      | false => exact kitAny_cons (kit_ty hk) (fun _ => isiA_kit ht e) fun z => nomatch z
theorem paired_imp {α β : Type} {p q : α → β → Prop} (f : ∀ x y, p x y → q x y) : ∀ {as : List α} {bs : List β}, Paired p as bs → Paired q as bs
  | _, _, .nil => .nil
  | _, _, .cons h t => .cons (f _ _ h) (paired_imp f t)
theorem RpA.roA {vs : List V} {ds : List D} (h : RpA K G vs ds) (s : Same G H) : RoA K G H vs ds := by
  induction vs generalizing ds with
  | nil => cases h; exact .nil
  | cons v vs ih => cases h with | cons a b => exact .cons (a.ro s) (ih b)
theorem RpK.length {vs : List (Key × V)} {ds : List (D × D)} (h : RpK K G vs ds) : vs.length = ds.length := by
  induction vs generalizing ds with
  | nil => cases h; rfl
  | cons v vs ih => cases h with | cons a b => simp [ih b]
end
section
variable {F : Fr} {G H : Hp} {σ : L2.St} {ρ : Sta} {Q : VK}
theorem liftB {b : B1} {vs : List V} {ds : List D} {P : R → Prop} (r : Rl F G H σ ρ) (ra : RoA F.K G H vs ds) (h : semB b ds P) (f : Gv F G H σ ρ P Q) : rB b F.K vs H Q := by
  cases b with
  | len =>
    simp only [semB] at h
    split at h
    · obtain ⟨v, rfl, a, ws, rfl, h1, h2⟩ := ra.one
      refine .inl ⟨a, ws, rfl, .inl (SqL.of h1), ?_⟩
      rw [h2.length]; exact f.fz r h (.int _)
    · obtain ⟨v, rfl, q⟩ := ra.one
      obtain ⟨a, ws, rfl, h1, h2, _⟩ := q.tup r.sub
      refine .inl ⟨a, ws, rfl, .inr h1, ?_⟩
      rw [h2.length]; exact f.fz r h (.int _)
    · obtain ⟨v, rfl, q⟩ := ra.one
      refine .inr (.inl ⟨_, by rw [q.str], h.1, f.fz r h.2 (.int _)⟩)
    · obtain ⟨v, rfl, a, ws, rfl, h1, h2⟩ := ra.one
      refine .inr (.inr ⟨a, ws, rfl, h1, ?_⟩)
      rw [h2.length]; exact f.fz r h (.int _)
    · obtain ⟨v, rfl, q⟩ := ra.one
      have q : Rp F.K G v (.scr _ _) := q
      cases q with
      | scr h1 =>
        refine .inl ⟨_, _, rfl, .inl (same_sqL r.sub h1), ?_⟩
        rw [List.length_map]; exact f.fz r h (.int _)
    · exact h.elim
  | abs =>
    simp only [semB] at h
    split at h
    · obtain ⟨v, rfl, q⟩ := ra.one
      exact ⟨_, by rw [q.int], f.fz r h (.int _)⟩
    · exact h.elim
  | int =>
    simp only [semB] at h
    split at h
    · obtain ⟨v, rfl, q⟩ := ra.one
      exact .inl ⟨_, by rw [q.int], f.fz r h (.int _)⟩
    · obtain ⟨v, rfl, q⟩ := ra.one
      exact .inr ⟨_, by rw [q.bl], f.fz r h (.int _)⟩
    · exact h.elim
  | str =>
    simp only [semB] at h
    split at h
    · obtain ⟨v, rfl, q⟩ := ra.one
      exact ⟨_, by rw [q.int], h.1, f.fz r h.2 (.str _)⟩
    · exact h.elim
  | list =>
    simp only [semB] at h
    split at h
    · obtain ⟨v, rfl, a, ws, rfl, h1, h2⟩ := ra.one
      exact ⟨a, ws, rfl, .inl (SqL.of h1), fun l hl => f.lst r h h2 hl⟩
    · obtain ⟨v, rfl, q⟩ := ra.one
      obtain ⟨a, ws, rfl, h1, h2, _⟩ := q.tup r.sub
      exact ⟨a, ws, rfl, .inr h1, fun l hl => f.lst r h h2 hl⟩
    · exact h.elim
  | tuple =>
    simp only [semB] at h
    split at h
    · obtain ⟨v, rfl, a, ws, rfl, h1, h2⟩ := ra.one
      exact ⟨a, ws, rfl, .inl ⟨SqL.of h1, fun l hl => f.tup r h h2 hl⟩⟩
    · obtain ⟨v, rfl, q⟩ := ra.one
      obtain ⟨a, ws, rfl, h1, h2, h3⟩ := q.tup r.sub
      exact ⟨a, ws, rfl, .inr ⟨h1, f.fz r h (.tup h3 h2)⟩⟩
    · exact h.elim
  | sorted =>
    simp only [semB] at h
    split at h
    · obtain ⟨v, rfl, a, ws, rfl, h1, h2⟩ := ra.one
      rcases h with ⟨ss, rfl, hl, q⟩ | ⟨ss, rfl, hl, q⟩ | ⟨ok, hl, q⟩
      · have e := h2.str_of
        subst e
        exact .inl (.inl (.inl ⟨a, ss, rfl, SqL.of h1, hl, fun ys p hp hs hn => f.lst r (q ys hp hs) (RpA.strs ys) hn⟩))
      · have e := h2.int_of
        subst e
        exact .inl (.inl (.inr ⟨a, ss, rfl, SqL.of h1, hl, fun ys p hp hs hn => f.lst r (q ys hp hs) (RpA.ints ys) hn⟩))
      · exact .inr ⟨a, ws, _, G, rfl, SqL.of h1, r.sub, h2, ok, hl, fun ys p hy hn => f.lst r q hy hn⟩
    · obtain ⟨v, rfl, a, ws, rfl, h1, h2⟩ := ra.one
      obtain ⟨ks, e, hl, q⟩ := h
      rw [h2.keys] at e
      exact .inl (.inr ⟨a, ws, ks, rfl, h1, keys_str e, hl, fun ys p hp hs hn => f.lst r (q ys hp hs) (RpA.strs ys) hn⟩)
    · exact h.elim
  | repr =>
    simp only [semB] at h
    split at h
    · obtain ⟨v, rfl, q⟩ := ra.one
      exact ⟨v, _, rfl, q.rp r.sub, h.1, f.fz r h.2 (.str _)⟩
    · exact h.elim
  | all =>
    simp only [semB] at h
    split at h
    · obtain ⟨v, rfl, a, ws, rfl, h1, h2⟩ := ra.one
      obtain ⟨bs, rfl, q⟩ := h
      have e := h2.bl_of
      subst e
      exact ⟨a, bs, rfl, SqL.of h1, f.fz r q (.bl _)⟩
    · exact h.elim
  | any =>
    simp only [semB] at h
    split at h
    · obtain ⟨v, rfl, a, ws, rfl, h1, h2⟩ := ra.one
      obtain ⟨bs, rfl, q⟩ := h
      have e := h2.bl_of
      subst e
      exact ⟨a, bs, rfl, SqL.of h1, f.fz r q (.bl _)⟩
    · exact h.elim
  | sum =>
    simp only [semB] at h
    split at h
    · obtain ⟨v, rfl, a, ws, rfl, h1, h2⟩ := ra.one
      obtain ⟨bs, rfl, q⟩ := h
      have e := h2.int_of
      subst e
      exact ⟨a, bs, rfl, SqL.of h1, f.fz r q (.int _)⟩
    · exact h.elim
  | isi =>
    simp only [semB] at h
    split at h
    · rename_i d n
      obtain ⟨b, e, q⟩ := h
      obtain ⟨v, c, rfl, r1, r2⟩ := ra.two
      have r2 : Rp F.K G c (.opq (.ty n)) := r2
      cases r2
      unfold isiB at e
      obtain ⟨t, e1, e2⟩ := Option.bind_eq_some_iff.mp e
      exact .inl ⟨v, .ty n, .type t, .type n, b, rfl, .ty n, ty_of e1 r1 r.sub, kit_ty e2, f.fz r q (.bl b)⟩
    · rename_i d us
      obtain ⟨ns, b, rfl, e0, e, q⟩ := h
      obtain ⟨v, c, rfl, r1, r2⟩ := ra.two
      obtain ⟨a, vs, rfl, h1, h2, _⟩ := r2.tup r.sub
      have e3 := opqs_of h2
      subst e3
      cases ht : d.tyn with
      | none => rw [ht] at e0; cases e0
      | some t => exact .inr ⟨v, a, _, .type t, ns.map Value.type, b, rfl, h1, cls_tys ns, ty_of ht r1 r.sub, isiA_kit ht e, f.fz r q (.bl b)⟩
    · exact h.elim
  | dict =>
    simp only [semB] at h
    split at h
    · obtain ⟨v, rfl, a, ws, rfl, h1, h2⟩ := ra.one
      obtain ⟨kvs, rfl, q⟩ := h
      obtain ⟨ps, ms, rfl, q1, q2⟩ := h2.pairs
      refine .inl ⟨a, ps, ms, rfl, SqL.of h1, ?_, fun p hp => ?_⟩
      · exact paired_imp (fun x y z => same_sqT r.sub z) q1
      · exact f _ _ G _ q (Gw.new r.sub hp) ⟨p, rfl, r.nw hp ⟨_, upd_same, RpK.merge .nil q2⟩⟩
    · obtain ⟨v, rfl, a, ws, rfl, h1, h2⟩ := ra.one
      exact .inr ⟨a, ws, rfl, h1, fun p hp => f _ _ G _ h (Gw.new r.sub hp) ⟨p, rfl, r.nw hp ⟨_, upd_same, h2⟩⟩⟩
    · exact h.elim
  | min =>
    simp only [semB] at h
    split at h
    · obtain ⟨v, c, rfl, r1, r2⟩ := ra.two
      exact .inl ⟨_, _, by rw [r1.int, r2.int], f.fz r h (.int _)⟩
    · obtain ⟨v, rfl, a, ws, rfl, h1, h2⟩ := ra.one
      obtain ⟨ns, rfl, h3, q⟩ := h
      have e := h2.int_of
      subst e
      exact .inr ⟨a, ns, rfl, SqL.of h1, h3, fun m q1 q2 => f.fz r (q m q1 q2) (.int _)⟩
    · exact h.elim
  | max =>
    simp only [semB] at h
    split at h
    · obtain ⟨v, c, rfl, r1, r2⟩ := ra.two
      exact ⟨_, _, by rw [r1.int, r2.int], f.fz r h (.int _)⟩
    · exact h.elim
end

/-! ### methods that change a list -/
abbrev RM := V → List V → Hp → VK → Prop
def rM (m : M2) : RM := match m with
  | .append => rAppend
  | .extend => rExtend
  | .pop => rPop
  | .popAt => rPopAt
  | .insert => fun x vs H Q => ∃ (l : Addr) (xs : List V) (i : Int) (y : V), x = .ref l ∧ vs = [.int i, y] ∧ H l = some (.lst xs) ∧ xs.length < sizeLine ∧ 0 ≤ i ∧ i < 2 ^ 63 ∧ Q .non (upd H l (.lst (xs.take i.toNat ++ [y] ++ xs.drop i.toNat)))
def M2.id : M2 → String
  | .append => "list.append"
  | .extend => "list.extend"
  | .pop => "list.pop"
  | .popAt => "list.pop"
  | .insert => "list.insert"
section
variable {F : Fr} {G H : Hp} {σ : L2.St} {ρ : Sta} {Q : VK}
/-- the own list at a is changed -/
theorem liftM {m : M2} {i : Nat} {a : Addr} {d : D} {vs : List V} {ds : List D} {P : D → D → Prop} (r : Rl F G H σ ρ) (ho : ρ.sl[i]? = some (.ow d)) (hs : σ[i]? = some (some (.ref a))) (ra : RpA F.K G vs ds) (h : semM m d ds P)
    (f : ∀ d' z v H', P d' z → Rl F G H' σ (ρ.put i (.ow d')) → Rp F.K G v z → Q v H') : rM m (.ref a) vs H Q := by
  obtain ⟨a', h1, h2, h3, h4⟩ := r.ow i d ho
  rw [h1] at hs
  cases hs
  cases m with
  | append =>
    simp only [semM] at h
    split at h
    · obtain ⟨ws, e1, e2⟩ := h4
      cases ra with
      | cons q1 q2 =>
        cases q2
        refine ⟨a, ws, _, rfl, rfl, e1, by rw [e2.length]; exact h.1, f _ _ _ _ h.2 (r.mut ho h1 ⟨_, upd_same, e2.append (.cons q1 .nil)⟩) .non⟩
    · exact h.elim
  | extend =>
    simp only [semM] at h
    split at h
    · obtain ⟨ws, e1, e2⟩ := h4
      cases ra with
      | cons q1 q2 =>
        cases q2
        cases q1 with
        | lst p1 p2 =>
          refine ⟨a, _, ws, _, rfl, rfl, e1, r.sub _ _ p1, by rw [e2.length, p2.length]; exact h.1, f _ _ _ _ h.2 (r.mut ho h1 ⟨_, upd_same, e2.append p2⟩) .non⟩
    · exact h.elim
  | pop =>
    simp only [semM] at h
    split at h
    · obtain ⟨ws, e1, e2⟩ := h4
      obtain ⟨y, e3, q⟩ := h
      cases ra
      obtain ⟨v, e4, e5⟩ := e2.get e3
      refine ⟨a, ws, v, rfl, rfl, e1, by rw [e2.length]; exact e4, f _ _ _ _ q (r.mut ho h1 ⟨_, upd_same, e2.dropLast⟩) e5⟩
    · exact h.elim
  | popAt =>
    simp only [semM] at h
    split at h
    · obtain ⟨ws, e1, e2⟩ := h4
      obtain ⟨b1, b2, k, y, e3, e4, q⟩ := h
      cases ra with
      | cons q1 q2 =>
        cases q2
        cases q1
        obtain ⟨v, e5, e6⟩ := e2.get e4
        refine ⟨a, ws, _, k, v, rfl, rfl, e1, b1, b2, by rw [e2.length]; exact e3, e5, f _ _ _ _ q (r.mut ho h1 ⟨_, upd_same, e2.eraseIdx k⟩) e6⟩
    · exact h.elim
  | insert =>
    simp only [semM] at h
    split at h
    · obtain ⟨ws, e1, e2⟩ := h4
      cases ra with
      | cons q1 q2 =>
        cases q2 with
        | cons q2 q3 =>
          cases q3
          cases q1
          refine ⟨a, ws, _, _, rfl, rfl, e1, by rw [e2.length]; exact h.1, h.2.1, h.2.2.1, f _ _ _ _ h.2.2.2 (r.mut ho h1 ⟨_, upd_same, ((e2.take _).append (.cons q2 .nil)).append (e2.drop _)⟩) .non⟩
    · exact h.elim
end
end DI

set_option Elab.async false
set_option linter.all false
set_option autoImplicit false
set_option maxRecDepth 100000
set_option maxHeartbeats 1000000
/-! DI3a: readings of the small language; defs whose callers show no text under way. -/
namespace DI
open PySem PySem.Spec PyProof.Rows L2

/-! ### a def's promise where no text is being shown -/
structure FnG (P : Program) (w : World) (K : PySem.W.Frag) (mg : Str → Option Value) (base : Heap) (gd : Bool) (k : Nat) (f : Addr) (fd : FuncData) (ps : List Str) (sp : Sp) : Prop where
  len : ∀ vs H Q E, sp vs H Q E → vs.length = ps.length
  run : ∀ (A : Around) (outer : List PySem.Env) (s : Shared) (H : Hp) (args : Args) (us : List Value) (vs : List V) (Q : VK) (E : XK), (gd = true → A.guards = some []) → Room k A → Env0 P w K mg base A outer s H →
    BindsTo s fd args (ps.zip us) → Vals vs us → sp vs H Q E → codeAny (model P w) A (.call (.ref f) args) (CR CX0 outer P w H s Q E) s
theorem FnG.mono {P : Program} {w : World} {K : PySem.W.Frag} {mg : Str → Option Value} {base : Heap} {gd : Bool} {j k : Nat} {f : Addr} {fd : FuncData} {ps : List Str} {sp : Sp} (F : FnG P w K mg base gd j f fd ps sp) (h : j ≤ k) : FnG P w K mg base gd k f fd ps sp :=
  ⟨F.len, fun A outer s H args us vs Q E hg hr => F.run A outer s H args us vs Q E hg (hr.mono h)⟩
theorem FnG.imp {P : Program} {w : World} {K : PySem.W.Frag} {mg : Str → Option Value} {base : Heap} {gd : Bool} {k : Nat} {f : Addr} {fd : FuncData} {ps : List Str} {sp sp' : Sp} (F : FnG P w K mg base gd k f fd ps sp) (h : ∀ vs H Q E, sp' vs H Q E → sp vs H Q E) : FnG P w K mg base gd k f fd ps sp' :=
  ⟨fun vs H Q E q => F.len vs H Q E (h _ _ _ _ q), fun A outer s H args us vs Q E hg hr he hb hv hs => F.run A outer s H args us vs Q E hg hr he hb hv (h _ _ _ _ hs)⟩
section
variable {X : Cx} {gd : Bool} {k : Nat} {f : Addr} {fd : FuncData} {ps : List Str} {sp : Sp}
/-- the callee at work -/
theorem goG {pins : List (Addr × Obj)} {σ : L2.St} {H : Hp} {s : Shared} {Q : VK} {us : List Value} {vs : List V} (F : FnG X.prog X.w X.K X.mg X.base gd k f fd ps sp) (hg : gd = true → X.A.guards = some []) (hr : Room k X.A) (hb : Binds X.K fd ps [])
    (I : Inv X pins σ H s) (r : Vals vs us) (h : sp vs H Q E0) : wpAny (model X.prog X.w) X.A (call (.ref f) us) (EP X pins σ Q) X.xe s := by
  have hl : us.length = ps.length := by
    rw [← r.length]
    exact F.len _ _ _ _ h
  have bd : BindsTo s fd ⟨us, []⟩ (ps.zip us) := by
    have q := hb s us I.kIn (by rw [List.append_nil]; exact hl)
    rwa [List.append_nil] at q
  refine wpAny_call (codeAny_mono (F.run X.A X.stack s H _ _ _ _ _ hg hr I.env0 bd r h) fun z s2 q => ?_)
  rcases z with e | fl
  · exact q.elim
  · cases fl with
    | ret u => exact I.after q
    | next => exact q.elim
    | brk => exact q.elim
    | cont => exact q.elim
def tCallG (sp : Sp) (t : TA) : TE := fun σ H Q => t σ H fun vs H1 => sp vs H1 Q E0
theorem pe_callG {x : Str} {p pos : Pos} {e : Expr} {es : List Expr} {t : TA} (F : FnG X.prog X.w X.K X.mg X.base gd k f fd ps sp) (hgd : gd = true → X.A.guards = some []) (hr : Room k X.A) (hg : Gl X x) (hm : X.mg x = some (.ref f)) (hk : PySem.W.keepIn X.K (.ref f) = true)
    (hb : Binds X.K fd ps []) (ha : PA X (e :: es) t) (hdb : (x == ("__debug__" : Str)) = false) (he : starEach (e :: es) X.env = (false, eval e X.env) :: starEach es X.env) (hpl : (backTo pos (starEach es X.env)).any (·.1) = false) :
    PE X (.Call (.Name x p) (e :: es) [] pos) (tCallG sp t) := by
  constructor
  intro pins s σ H Q I h
  refine wpAny_Call_Name_kw (ld_glob I hg hm ?_ hdb)
  refine PySem.W.callWith_K (h₀ := X.base) I.ok.mod.kin hk (thn (ha.run pos pins s σ H _ I h) ?_) he hpl
  rintro us s1 ⟨vs, H1, I1, r, q⟩
  exact ⟨I1.kIn, goG F hgd hr hb I1 r q⟩
theorem pe_callG0 {x : Str} {p pos : Pos} (F : FnG X.prog X.w X.K X.mg X.base gd k f fd ps sp) (hgd : gd = true → X.A.guards = some []) (hr : Room k X.A) (hg : Gl X x) (hm : X.mg x = some (.ref f)) (hk : PySem.W.keepIn X.K (.ref f) = true)
    (hb : Binds X.K fd ps []) (hdb : (x == ("__debug__" : Str)) = false) : PE X (.Call (.Name x p) [] [] pos) (tCallG sp tNil) :=
  ⟨fun _ _ _ _ _ I h => wpAny_Call_Name_kw (ld_glob I hg hm (PySem.W.callWith_K0 I.kIn hk (goG (us := []) F hgd hr hb I .nil h)) hdb)⟩
end

/-! ### a promise over data as one over the heap -/
/-- nothing stood there, unless a table -/
def nw0 (β : Option Bag) (H : Hp) (a : Addr) : Prop := ∀ o, H a = some o → ∃ b ps, β = some b ∧ o = .tbl ps
theorem nw0_none {β : Option Bag} {H : Hp} {a : Addr} (h : H a = none) : nw0 β H a := fun o e => by rw [h] at e; cases e
theorem Rl.pnw0 {F : Fr} {G H : Hp} {σ : L2.St} {ρ : Sta} (r : Rl F G H σ ρ) {a : Addr} (h : nw0 ρ.bag H a) : ¬ F.P a := fun q => by
  obtain ⟨_, _, q3, _, q5⟩ := r.fr a q
  cases e : H a with
  | none => exact q3 e
  | some o =>
    obtain ⟨b, ps, hb, rfl⟩ := h o e
    exact q5 b hb ps e
theorem Con.nw0 {K : PySem.W.Frag} {G H : Hp} {a : Addr} {d : D} {β : Option Bag} (c : Con K G H a d) (h : nw0 β H a) : False := by
  cases e : H a with
  | none => exact c.some e
  | some o =>
    obtain ⟨b, ps, hb, rfl⟩ := h o e
    exact c.notbl ps e
theorem BagOk.nw0 {K : PySem.W.Frag} {G H : Hp} {b : Bag} {β : Option Bag} (q : BagOk K G H b) (h : nw0 β H b.1) : False := by
  obtain ⟨_, _, x, m, c, ns, h1, _⟩ := q
  obtain ⟨_, ps, _, e⟩ := h _ h1
  cases e
/-- how an answer stands -/
def RO (K : PySem.W.Frag) (β : Option Bag) (G H : Hp) (H0 : Hp) (v : V) : R → Prop
  | .fz d => Rp K G v d
  | .ow d => ∃ a, v = .ref a ∧ nw0 β H0 a ∧ G a = none ∧ Con K G H a d
  | .al _ => False
structure Ok2 (K : PySem.W.Frag) (β : Option Bag) (G H G' H' : Hp) : Prop where
  g : Same G G'
  s : Same G' H'
  k : ∀ a, H a ≠ none → G a = none → ntb β H a → G' a = none ∧ (nbag β a → H' a = H a)
  b : ∀ b, β = some b → BagOk K G' H' b
/-- .. of a def that may end by an error of the class at cn, with one field fx -/
def liftSpX (K : PySem.W.Frag) (cn : Addr) (fx : Str) (S : DSpX) : Sp := fun vs H Q E => ∃ G β ds, Same G H ∧ (∀ b, β = some b → BagOk K G H b) ∧ RpA K G vs ds ∧
  S β ds (fun o => ∀ v G' H', Ok2 K β G H G' H' → RO K β G' H' H v o → Q v H') fun d => ∀ v dx G' H', Ok2 K β G H G' H' → H' dx = some (.xd [(fx, v)]) → Rp K G' v d → E (.ref cn) (some dx) H'
def liftSp (K : PySem.W.Frag) (S : DSp) : Sp := fun vs H Q _ => ∃ G β ds, Same G H ∧ (∀ b, β = some b → BagOk K G H b) ∧ RpA K G vs ds ∧
  S β ds fun o => ∀ v G' H', Ok2 K β G H G' H' → RO K β G' H' H v o → Q v H'

/-! ### readings -/
def LE (T : Tb) (K : PySem.W.Frag) (c : CE) : TE := fun σ H Q => ∃ F G ρ, F.K = K ∧ Rl F G H σ ρ ∧ evE T c ρ fun r ρ' => ∀ v G' H', Same G G' → Rl F G' H' σ ρ' → RR F G' H' σ ρ' v r → Q v H'
/-- a stable operand -/
def SO (F : Fr) (G : Hp) (σ : L2.St) (v : V) : R → Prop
  | .fz d => Rp F.K G v d
  | .ow d => Rp F.K G v d
  | .al i => σ[i]? = some (some v)
def SOA (F : Fr) (G : Hp) (σ : L2.St) : List V → List R → Prop
  | [], [] => True
  | v :: vs, r :: rs => SO F G σ v r ∧ SOA F G σ vs rs
  | _, _ => False
def LA (T : Tb) (K : PySem.W.Frag) (c : CA) : TA := fun σ H Q => ∃ F G ρ, F.K = K ∧ Rl F G H σ ρ ∧ evA T c ρ fun rs ρ' => ∀ vs G' H', Same G G' → Rl F G' H' σ ρ' → SOA F G' σ vs rs → Q vs H'
def LK (T : Tb) (K : PySem.W.Frag) (c : CA) : TA := fun σ H Q => ∃ F G ρ, F.K = K ∧ Rl F G H σ ρ ∧ evK T c ρ fun ds ρ' => ∀ vs G' H', Same G G' → Rl F G' H' σ ρ' → RpA F.K G' vs ds → Q vs H'
def LO (T : Tb) (K : PySem.W.Frag) (c : CO) : TO := fun σ H Q => ∃ F G ρ, F.K = K ∧ Rl F G H σ ρ ∧ evO T c ρ fun r ρ' => ∀ G' H', Same G G' → Rl F G' H' σ ρ' → Q r H'
def LT (T : Tb) (K : PySem.W.Frag) (c : CT) : TT := fun σ H Q => ∃ F G ρ, F.K = K ∧ Rl F G H σ ρ ∧ evT T c ρ fun b ρ' => ∀ G' H', Same G G' → Rl F G' H' σ ρ' → Q b H'
def LC (T : Tb) (K : PySem.W.Frag) (c : CC) : TT := fun σ H Q => ∃ F G ρ, F.K = K ∧ Rl F G H σ ρ ∧ evC T c ρ fun b ρ' => ∀ G' H', Same G G' → Rl F G' H' σ ρ' → Q b H'
section
variable {F : Fr} {G H : Hp} {σ : L2.St} {ρ : Sta}
theorem SO.mono {G' : Hp} {v : V} {r : R} (h : SO F G σ v r) (g : Same G G') : SO F G' σ v r := by
  cases r with
  | fz d => exact Rp.mono g h
  | ow d => exact Rp.mono g h
  | al i => exact h
theorem SOA.mono {G' : Hp} (g : Same G G') : ∀ {vs : List V} {rs : List R}, SOA F G σ vs rs → SOA F G' σ vs rs
  | [], [], _ => trivial
  | _ :: _, _ :: _, h => ⟨h.1.mono g, SOA.mono g h.2⟩
  | [], _ :: _, h => h
  | _ :: _, [], h => h
/-- a result as a stable operand -/
theorem opnd {v : V} {x : R} (r : Rl F G H σ ρ) (q : RR F G H σ ρ v x) : ∃ G', Same G G' ∧ Rl F G' H σ ρ ∧ SO F G' σ v x := by
  cases x with
  | fz d => exact ⟨G, Same.refl G, r, q⟩
  | al i => exact ⟨G, Same.refl G, r, q.2⟩
  | ow d =>
    obtain ⟨a, rfl, n⟩ := q
    obtain ⟨G', g, r', p⟩ := r.keepN n
    exact ⟨G', g, r', p⟩
theorem SO.opd {v : V} {x : R} (h : SO F G σ v x) : SO F G σ v (opd x) := by
  cases x <;> exact h
theorem SO.rd {v : V} {x : R} {P : D → Prop} (r : Rl F G H σ ρ) (h : SO F G σ v x) (q : rd ρ x P) : ∃ d, P d ∧ Ro F.K G H v d := by
  cases x with
  | fz d => exact ⟨d, q, Rp.ro h r.sub⟩
  | ow d => exact ⟨d, q, Rp.ro h r.sub⟩
  | al i =>
    simp only [DI.rd] at q
    split at q
    · rename_i d e
      obtain ⟨a, h1, _, _, h4⟩ := r.ow i d e
      have h : σ[i]? = some (some v) := h
      rw [h1] at h
      cases h
      exact ⟨d, q, h4.ro⟩
    · exact q.elim
theorem SOA.rd (r : Rl F G H σ ρ) : ∀ {vs : List V} {rs : List R} {P : List D → Prop}, SOA F G σ vs rs → rdA ρ rs P → ∃ ds, P ds ∧ RoA F.K G H vs ds
  | [], [], _, _, q => ⟨[], q, .nil⟩
  | v :: vs, x :: rs, P, h, q => by
    obtain ⟨d, q1, ro⟩ := SO.rd r h.1 q
    obtain ⟨ds, q2, roA⟩ := SOA.rd r h.2 q1
    exact ⟨d :: ds, q2, .cons ro roA⟩
  | [], _ :: _, _, h, _ => h.elim
  | _ :: _, [], _, h, _ => h.elim
/-- a result that is kept -/
theorem keepR {v : V} {x : R} {P : D → Sta → Prop} (r : Rl F G H σ ρ) (h : RR F G H σ ρ v x) (q : keep x ρ P) : ∃ G' d ρ', Same G G' ∧ Rl F G' H σ ρ' ∧ Rp F.K G' v d ∧ P d ρ' := by
  cases x with
  | fz d => exact ⟨G, d, ρ, Same.refl G, r, h, q⟩
  | ow d =>
    obtain ⟨a, rfl, n⟩ := h
    obtain ⟨G', g, r', p⟩ := r.keepN n
    exact ⟨G', d, ρ, g, r', p, q⟩
  | al i =>
    simp only [keep] at q
    split at q
    · rename_i d e
      obtain ⟨G', g, r', p⟩ := r.frzS e h.2
      exact ⟨G', d, _, g, r', p, q⟩
    · exact q.elim
end
theorem pe_imp {X : Cx} {e : Expr} {t t' : TE} (h : PE X e t) (f : ∀ σ H Q, t' σ H Q → t σ H Q) : PE X e t' := ⟨fun pins s σ H Q I q => h.run pins s σ H Q I (f _ _ _ q)⟩
theorem pt_imp {X : Cx} {e : Expr} {t t' : TT} (h : PT X e t) (f : ∀ σ H Q, t' σ H Q → t σ H Q) : PT X e t' := ⟨fun pins s σ H Q I q => h.run pins s σ H Q I (f _ _ _ q)⟩
theorem pw_imp {X : Cx} {e : Expr} {t t' : TT} (h : PW X e t) (f : ∀ σ H Q, t' σ H Q → t σ H Q) : PW X e t' := ⟨fun wh pins s σ H Q I q => h.run wh pins s σ H Q I (f _ _ _ q)⟩
theorem pa_imp {X : Cx} {es : List Expr} {t t' : TA} (h : PA X es t) (f : ∀ σ H Q, t' σ H Q → t σ H Q) : PA X es t' := ⟨fun pos pins s σ H Q I q => h.run pos pins s σ H Q I (f _ _ _ q)⟩
theorem po_imp {X : Cx} {e : Option Expr} {t t' : TO} (h : PO X e t) (f : ∀ σ H Q, t' σ H Q → t σ H Q) : PO X e t' := ⟨fun pins s σ H Q I q => h.run pins s σ H Q I (f _ _ _ q)⟩
theorem ps_imp {X : Cx} {e : Stmt} {t t' : TS} (h : PS X e t) (f : ∀ D σ H, t' D σ H → t D σ H) : PS X e t' := ⟨fun pins s σ H D I q => h.run pins s σ H D I (f _ _ _ q)⟩
theorem pss_imp {X : Cx} {e : List Stmt} {t t' : TS} (h : PSs X e t) (f : ∀ D σ H, t' D σ H → t D σ H) : PSs X e t' := ⟨fun pins s σ H D I q => h.run pins s σ H D I (f _ _ _ q)⟩
theorem pi_imp {X : Cx} {tg e : Expr} {t t' : TI} (h : PI X tg e t) (f : ∀ σ H Q, t' σ H Q → t σ H Q) : PI X tg e t' := ⟨fun pins s σ H Q I q => h.run pins s σ H Q I (f _ _ _ q)⟩
theorem pts_imp {X : Cx} {e : List Expr} {t t' : TT} (h : PTs X e t) (f : ∀ σ H Q, t' σ H Q → t σ H Q) : PTs X e t' := ⟨fun pins s σ H Q I q => h.run pins s σ H Q I (f _ _ _ q)⟩
end DI

set_option Elab.async false
set_option linter.all false
set_option autoImplicit false
set_option maxRecDepth 100000
set_option maxHeartbeats 1000000
/-! DI3b: how a body of the text is checked to be a body of the small language. -/
namespace DI
open PySem PySem.Spec PyProof.Rows L2

structure SC where
  N : List Str
  sc : Scope
  fnm : Str → Bool
  n : Nat
  fn : Nat → Str
  ng : Nat
  gl : Nat → Str
  gd : Bool := true
  fg : Nat → Bool := fun _ => true
  nx : Nat := 0
  xf : Nat → Str := fun _ => ""
  ex : Bool := false
  rs : Bool := false
  nr : Str := ""
  hd : Option Str := none
  ngd : Nat := 0
  gdn : Nat → Str := fun _ => ""

def visB (sc : Scope) (x : Str) : Bool := match sc.names.lookup x with
  | some .local => true
  | some .cell => true
  | some .free => true
  | _ => false
def locB (S : SC) (x : Str) : Bool := match S.sc.names.lookup x with
  | some .local => true
  | some .cell => S.fnm x
  | _ => false
def isLoc (sc : Scope) (x : Str) : Bool := match sc.names.lookup x with
  | some .local => true
  | _ => false
def gloB (sc : Scope) (x : Str) : Bool := match sc.names.lookup x with
  | some .globalImplicit => true
  | _ => false
def noStar : Expr → Bool
  | .Starred _ _ => false
  | _ => true
def noSlice : Expr → Bool
  | .Slice _ _ _ _ => false
  | _ => true
def noComp : Expr → Bool
  | .ListComp _ _ _ _ => false
  | .SetComp _ _ _ _ => false
  | .DictComp _ _ _ _ _ => false
  | _ => true
def noSet : Expr → Bool
  | .Set _ _ _ => false
  | _ => true
def noTup : Expr → Bool
  | .Tuple _ _ _ => false
  | _ => true
def plainT : Expr → Bool
  | .UnaryOp _ _ _ => false
  | .BoolOp _ _ _ => false
  | .IfExp _ _ _ _ => false
  | .Compare _ _ _ _ => false
  | _ => true
def isBin : O2 → Operator → Bool
  | .add, .Add => true
  | .sub, .Sub => true
  | .mul, .Mult => true
  | .mod, .Mod => true
  | .fdiv, .FloorDiv => true
  | .pow, .Pow => true
  | _, _ => false
def isCmp : O2 → CmpOp → Bool
  | .eq, .Eq => true
  | .ne, .NotEq => true
  | .lt, .Lt => true
  | .le, .LtE => true
  | .gt, .Gt => true
  | .ge, .GtE => true
  | .isin, .In => true
  | .notin, .NotIn => true
  | .is, .Is => true
  | .isnot, .IsNot => true
  | _, _ => false
def isIdx : O2 → Bool
  | .ix => true
  | _ => false
def conB : D → Const → Bool
  | .non, .none => true
  | .bl b, .bool c => b == c
  | .int i, .int j => i == j
  | .str x, .str y => decide (x = y)
  | _, _ => false
def B1.name : B1 → Str
  | .len => "len"
  | .abs => "abs"
  | .int => "int"
  | .str => "str"
  | .list => "list"
  | .tuple => "tuple"
  | .sorted => "sorted"
  | .repr => "repr"
  | .all => "all"
  | .any => "any"
  | .sum => "sum"
  | .isi => "isinstance"
  | .dict => "dict"
  | .min => "min"
  | .max => "max"
def tyNames : List String := ["list", "tuple", "str", "int", "bool", "dict"]
def M2.name : M2 → Str
  | .append => "append"
  | .extend => "extend"
  | .pop => "pop"
  | .popAt => "pop"
  | .insert => "insert"
def M2.args : M2 → Bool
  | .pop => false
  | _ => true
def nameIs (S : SC) (i : Nat) (x : Str) : Bool := decide (S.N[i]? = some x) && visB S.sc x && !(x == ("__debug__" : Str)) && !(x == ("__classdict__" : Str))
def tgtIs (S : SC) (i : Nat) (x : Str) : Bool := decide (S.N[i]? = some x) && locB S x
def SC.blk (S : SC) (scope : Scope) : SC := { S with sc := relS scope S.sc, fnm := fun x => scope.names.lookup x == some .cell, hd := none, ex := false, rs := false }
def SC.lam (S : SC) (scope : Scope) : SC := { S with sc := scope, fnm := fun _ => false, hd := none, ex := false, rs := false, gd := false, n := 0, ng := 0, nx := 0, ngd := 0 }
def chkNs (S : SC) : List Nat → List Expr → Bool
  | [], [] => true
  | i :: is, e :: es => (match e with
    | .Name x _ => tgtIs S i x
    | _ => false) && chkNs S is es
  | _, _ => false
def chkG (S : SC) : CG → Expr → Bool
  | .name i, e => match e with
    | .Name x _ => tgtIs S i x
    | _ => false
  | .tup is, e => match e with
    | .Tuple es _ _ => chkNs S is es
    | _ => false
def ownIs (own : List (Str × Nat)) (is : List Nat) : Bool := decide (own.map (·.2) = is)
def ownOf (N : List Str) (is : List Nat) : List (Str × Nat) := is.map fun i => (N.getD i "", i)

/-- the own slots of a comprehension hold its target -/
def gIn : CG → List Nat → Bool
  | .name i, own => own.contains i
  | .tup is, own => is.all own.contains

def N1.name : N1 → Str
  | .split => "split"
def baseOk : Expr → Bool
  | .BinOp _ _ _ _ => true
  | .Constant _ _ _ => true
  | .Name _ _ => true
  | _ => false
def baseOk2 : Expr → Bool
  | .Constant _ _ _ => true
  | .Name _ _ => true
  | .Subscript _ _ _ => true
  | .Call _ (_ :: _) _ _ => true
  | _ => false
def noPrm (p : Arguments) : Bool := p.posonlyargs.isEmpty && p.args.isEmpty && p.vararg.isNone && p.kwonlyargs.isEmpty && p.kw_defaults.isEmpty && p.kwarg.isNone && p.defaults.isEmpty
/-- as many values as keys -/
def fitsK : List Str → CA → Bool
  | [], .nil => true
  | _ :: xs, .cons _ es => fitsK xs es
  | _, _ => false
def isNil : CA → Bool
  | .nil => true
  | _ => false
mutual
def chkE (S : SC) : CE → Expr → Bool
  | .var i, e => match e with
    | .Name x _ => nameIs S i x
    | _ => false
  | .con d, e => match e with
    | .Constant c _ _ => conB d c
    | _ => false
  | .glo k, e => match e with
    | .Name x _ => decide (k < S.ng) && decide (S.gl k = x) && gloB S.sc x && !(x == ("__debug__" : Str))
    | _ => false
  | .op2 o a b, e => match e with
    | .BinOp x op y _ => isBin o op && chkE S a x && chkE S b y
    | .Compare x [op] [y] _ => isCmp o op && chkE S a x && chkE S b y && !behindInMarks op y
    | .Subscript x y _ => isIdx o && chkE S a x && chkE S b y && noSlice y
    | _ => false
  | .op1 o a, e => match e with
    | .UnaryOp .USub x _ => chkE S a x
    | _ => false
  | .and a b, e => match e with
    | .BoolOp .And [x, y] _ => chkE S a x && chkE S b y
    | .BoolOp .And (x :: y :: z :: rest) p => chkE S a x && chkE S b (.BoolOp .And (y :: z :: rest) p)
    | _ => false
  | .or a b, e => match e with
    | .BoolOp .Or [x, y] _ => chkE S a x && chkE S b y
    | .BoolOp .Or (x :: y :: z :: rest) p => chkE S a x && chkE S b (.BoolOp .Or (y :: z :: rest) p)
    | _ => false
  | .not a, e => match e with
    | .UnaryOp .Not x _ => chkE S a x
    | _ => false
  | .ifx c a b, e => match e with
    | .IfExp t x y _ => chkT S c t && chkE S a x && chkE S b y
    | _ => false
  | .lst es, e => match e with
    | .List xs _ => chkD S es xs
    | _ => false
  | .tup es, e => match e with
    | .Tuple xs _ _ => chkD S es xs
    | _ => false
  | .slc a lo hi, e => match e with
    | .Subscript x (.Slice l h none _) _ => chkE S a x && chkO S lo l && chkO S hi h
    | _ => false
  | .bi b es, e => match e with
    | .Call (.Name x _) (y :: ys) [] _ => decide (x = b.name) && gloB S.sc x && chkA S es (y :: ys) && (S.gd || !b.isRepr)
    | _ => false
  | .mut m i es, e => match e with
    | .Call (.Attribute (.Name x _) a apos) ys [] cpos => decide (a = m.name) && nameIs S i x && (apos.endLine == cpos.line) && (match ys with
      | [] => !m.args
      | _ :: _ => m.args && decide (ys.length < 30)) && chkA S es ys
    | _ => false
  | .call k es, e => match e with
    | .Call (.Name x _) [] [] _ => decide (k < S.n) && decide (S.fn k = x) && gloB S.sc x && !(x == ("__debug__" : Str)) && chkA S es [] && (S.gd || !S.fg k)
    | .Call (.Name x _) (y :: ys) [] _ => decide (k < S.n) && decide (S.fn k = x) && gloB S.sc x && !(x == ("__debug__" : Str)) && chkA S es (y :: ys) && (S.gd || !S.fg k)
    | _ => false
  | .dks fz xs es, e => match e with
    | .Dict ks vs _ => (fz && xs.isEmpty && ks.isEmpty && vs.isEmpty && isNil es) || (!ks.isEmpty && chkKV S es xs ks vs && decide (ks.length ≤ 15))
    | _ => false
  | .items i, e => match e with
    | .Call (.Name f _) [.Call (.Attribute (.Name x _) nm apos) [] [] cpos] [] _ => decide (f = "list") && decide (nm = "items") && gloB S.sc f && (apos.endLine == cpos.line) && nameIs S i x
    | _ => false
  | .heard k es, e => match e with
    | .Call (.Name h _) [.Lambda prm (.Call (.Name x _) (y :: ys) [] _) scope _] [] _ => decide (S.hd = some h) && LamX.lamSB S.sc scope && noPrm prm && decide (k < S.nx) && decide (S.xf k = x) && gloB scope x && !(x == ("__debug__" : Str)) && gloB S.sc h && !(h == ("__debug__" : Str)) && chkA (S.lam scope) es (y :: ys)
    | _ => false
  | .meth m a y, e => match e with
    | .Call (.Attribute o nm apos) [x] [] cpos => decide (nm = m.name) && baseOk o && (apos.endLine == cpos.line) && noStar x && chkE S a o && chkE S y x
    | _ => false
  | .sset y, e => match e with
    | .Call (.Name f _) [.Call (.Name g _) [x] [] _] [] _ => decide (f = "sorted") && decide (g = "set") && gloB S.sc f && gloB S.sc g && noStar x && chkE S y x
    | _ => false
  | .dn1 k v, e => match e with
    | .Dict [some x] [y] _ => chkE S k x && chkE S v y
    | _ => false
  | .chn o o' a b c, e => match e with
    | .Compare x [op, op'] [y, z] _ => isCmp o op && isCmp o' op' && !behindInMarks op' z && chkE S a x && chkE S b y && chkE S c z
    | _ => false
  | .tyc n, e => match e with
    | .Name x _ => decide (x = Str.ofString n) && decide (n ∈ tyNames) && gloB S.sc x
    | _ => false
  | .dk0, e => match e with
    | .Dict [] [] _ => true
    | _ => false
  | .dk1 x v, e => match e with
    | .Dict [some (.Constant (.str y) _ _)] [z] _ => decide (x = y) && chkE S v z
    | _ => false
  | .upper a, e => match e with
    | .Call (.Attribute o nm apos) [] [] cpos => decide (nm = "upper") && baseOk2 o && (apos.endLine == cpos.line) && chkE S a o
    | _ => false
  | .cnt a y, e => match e with
    | .Call (.Attribute o nm apos) [x] [] cpos => decide (nm = "count") && baseOk2 o && (apos.endLine == cpos.line) && noStar x && chkE S a o && chkE S y x
    | _ => false
  | .join a y, e => match e with
    | .Call (.Attribute o nm apos) [x] [] cpos => decide (nm = "join") && baseOk o && (apos.endLine == cpos.line) && noStar x && chkE S a o && chkE S y x
    | _ => false
  | .dget a y, e => match e with
    | .Call (.Attribute o nm apos) [x] [] cpos => decide (nm = "get") && baseOk o && (apos.endLine == cpos.line) && noStar x && chkE S a o && chkE S y x
    | _ => false
  | .dgetd a y z, e => match e with
    | .Call (.Attribute o nm apos) [x, w] [] cpos => decide (nm = "get") && baseOk o && (apos.endLine == cpos.line) && noStar x && noStar w && chkE S a o && chkE S y x && chkE S z w
    | _ => false
  | .gix k y, e => match e with
    | .Subscript (.Name g _) x _ => decide (k < S.ngd) && decide (S.gdn k = g) && gloB S.sc g && !(g == ("__debug__" : Str)) && chkE S y x && noSlice x
    | _ => false
  | .dn0, e => match e with
    | .Dict [] [] _ => true
    | _ => false
  | .callS k es, e => match e with
    | .Call (.Name x _) (y :: ys) [] _ => decide (k < S.n) && decide (S.fn k = x) && gloB S.sc x && !(x == ("__debug__" : Str)) && chkA S es (y :: ys) && (S.gd || !S.fg k)
    | _ => false
  | .sortn y, e => match e with
    | .Call (.Name f _) [x] [] _ => decide (f = "sorted") && gloB S.sc f && noStar x && chkE S y x
    | _ => false
  | .dcomp own g it a y, e => match e with
    | .DictComp kx vx [⟨tg, iter, [], 0⟩] scope _ => blkC S.N S.sc scope (ownOf S.N own) && chkI S it tg iter && chkG (S.blk scope) g tg && chkE (S.blk scope) a kx && chkE (S.blk scope) y vx && noSet iter && gIn g own
    | _ => false
  | .cpy j i, e => match e with
    | .ListComp (.Name z _) [⟨.Name x _, .Name y _, [], 0⟩] scope _ => blkC S.N S.sc scope (ownOf S.N [j]) && nameIs S i y && tgtIs (S.blk scope) j x && nameIs (S.blk scope) j z
    | _ => false
  | .compk own g i c e', e => match e with
    | .ListComp elt [⟨tg, .Name x _, ifs, 0⟩] scope _ => blkC S.N S.sc scope (ownOf S.N own) && nameIs S i x && chkG (S.blk scope) g tg && chkC (S.blk scope) c ifs && chkE (S.blk scope) e' elt && gIn g own
    | _ => false
  | .comp own g it c e', e => match e with
    | .ListComp elt [⟨tg, iter, ifs, 0⟩] scope _ => blkC S.N S.sc scope (ownOf S.N own) && chkI S it tg iter && chkG (S.blk scope) g tg && chkC (S.blk scope) c ifs && chkE (S.blk scope) e' elt && noSet iter && gIn g own
    | _ => false
def chkA (S : SC) : CA → List Expr → Bool
  | .nil, es => es.isEmpty
  | .cons c cs, es => match es with
    | e :: es => noStar e && chkE S c e && chkA S cs es
    | [] => false
  | .star _ _, _ => false
/-- displays: stars may stand there -/
def chkD (S : SC) : CA → List Expr → Bool
  | .nil, es => es.isEmpty
  | .cons c cs, es => match es with
    | e :: es => noStar e && chkE S c e && chkD S cs es
    | [] => false
  | .star c cs, es => match es with
    | .Starred e _ :: es => chkE S c e && chkD S cs es
    | _ => false
/-- the pairs of a dict display, text keys -/
def chkKV (S : SC) : CA → List Str → List (Option Expr) → List Expr → Bool
  | .nil, xs, ks, vs => xs.isEmpty && ks.isEmpty && vs.isEmpty
  | .cons c cs, xs, ks, vs => match xs, ks, vs with
    | x :: xs, some (.Constant (.str y) _ _) :: ks, v :: vs => decide (x = y) && chkE S c v && chkKV S cs xs ks vs
    | _, _, _ => false
  | .star _ _, _, _, _ => false
def chkO (S : SC) : CO → Option Expr → Bool
  | .none, e => e.isNone
  | .some c, e => match e with
    | some e => chkE S c e
    | none => false
def chkC (S : SC) : CC → List Expr → Bool
  | .none, es => es.isEmpty
  | .some c, es => match es with
    | [e] => chkT S c e
    | _ => false
def chkT (S : SC) : CT → Expr → Bool
  | .cmp o a b, e => match e with
    | .Compare x [op] [y] _ => isCmp o op && chkE S a x && chkE S b y && !behindInMarks op y
    | _ => false
  | .chn o o' a b c, e => match e with
    | .Compare x [op, op'] [y, z] _ => isCmp o op && isCmp o' op' && !behindInMarks op' z && chkE S a x && chkE S b y && chkE S c z
    | _ => false
  | .and a b, e => match e with
    | .BoolOp .And [x, y] _ => chkT S a x && chkT S b y
    | .BoolOp .And (x :: y :: z :: rest) p => chkT S a x && chkT S b (.BoolOp .And (y :: z :: rest) p)
    | _ => false
  | .or a b, e => match e with
    | .BoolOp .Or [x, y] _ => chkT S a x && chkT S b y
    | .BoolOp .Or (x :: y :: z :: rest) p => chkT S a x && chkT S b (.BoolOp .Or (y :: z :: rest) p)
    | _ => false
  | .not a, e => match e with
    | .UnaryOp .Not x _ => chkT S a x
    | _ => false
  | .val c, e => plainT e && chkE S c e
  | .gin neg k c, e => match e with
    | .Compare x [op] [.Name g _] _ => (match op with
      | .In => !neg
      | .NotIn => neg
      | _ => false) && decide (k < S.ngd) && decide (S.gdn k = g) && gloB S.sc g && !(g == ("__debug__" : Str)) && chkE S c x
    | _ => false
def chkI (S : SC) : CI → Expr → Expr → Bool
  | .seq c, _, e => chkE S c e
  | .range cs, _, e => match e with
    | .Call (.Name x _) [a] [] _ => decide (x = "range") && gloB S.sc x && noStar a && chkA S cs [a]
    | .Call (.Name x _) [a, b] [] _ => decide (x = "range") && gloB S.sc x && noStar a && noStar b && chkA S cs [a, b]
    | .Call (.Name x _) [a, b, c] [] _ => decide (x = "range") && gloB S.sc x && noStar a && chkA S cs [a, b, c]
    | _ => false
  | .enum c, tg, e => match e, tg with
    | .Call (.Name x _) [a] [] _, .Tuple _ _ _ => decide (x = "enumerate") && gloB S.sc x && noStar a && chkE S c a
    | _, _ => false
  | .zip cs, tg, e => match e, tg with
    | .Call (.Name x _) [a, b] [] _, .Tuple _ _ _ => decide (x = "zip") && gloB S.sc x && noStar a && chkA S cs [a, b]
    | _, _ => false
end
end DI

set_option Elab.async false
set_option linter.all false
set_option autoImplicit false
set_option maxRecDepth 100000
set_option maxHeartbeats 1000000
/-! DI0c: more about states: behind a call, in a comprehension. -/
namespace DI
open PySem PySem.Spec PyProof.Rows L2
section
variable {F : Fr} {G H : Hp} {σ : L2.St} {ρ : Sta}
/-- the heap has grown, the bag may have changed -/
structure GwB (K : PySem.W.Frag) (β : Option Bag) (G H G' H' : Hp) : Prop where
  g : Same G G'
  s : Same G' H'
  h : ∀ a, H a ≠ none → nbag β a → ntb β H a → H' a = H a
  n : ∀ a, H a ≠ none → G a = none → ntb β H a → G' a = none
  b : ∀ b, β = some b → BagOk K G' H' b
theorem Rl.growB {G' H' : Hp} (r : Rl F G H σ ρ) (w : GwB F.K ρ.bag G H G' H') : Rl F G' H' σ ρ := by
  refine ⟨w.s, fun a h => ?_, r.len, fun i d e => ?_, fun i d e => ?_, r.ap, w.b, r.bo⟩
  · obtain ⟨q1, q2, q3, q4, q5⟩ := r.fr a h
    have e := w.h a q3 q4 q5
    exact ⟨w.n a q3 q1 q5, e.trans q2, by rw [e]; exact q3, q4, fun b' e' ps => by rw [e]; exact q5 b' e' ps⟩
  · obtain ⟨v, h1, h2⟩ := r.fz i d e
    exact ⟨v, h1, h2.mono w.g⟩
  · obtain ⟨a, h1, h2, h3, h4⟩ := r.ow i d e
    exact ⟨a, h1, h2, w.n a h4.some h3 (fun _ _ => h4.notbl), h4.sub w.g (w.h a h4.some (fun b z q => r.bo b i d z e (by rw [q]; exact h1)) fun _ _ => h4.notbl)⟩
/-- the tables have changed -/
theorem Rl.extN {H1 : Hp} (r : Rl F G H σ ρ) (ex : ∀ a o, H a = some o → (∀ ps, o ≠ .tbl ps) → H1 a = some o) (tb : ∀ b, ρ.bag = some b → LamX.Tabs b.2.2 H1) {b0 : Bag} (hb0 : ρ.bag = some b0) : Rl F G H1 σ ρ := by
  have ng := (r.bg b0 hb0).1.g
  have at_ : ∀ a, H a ≠ none → ntb ρ.bag H a → H1 a = H a := fun a h n => by
    cases e : H a with
    | none => exact absurd e h
    | some o => exact ex a o e fun ps z => n b0 hb0 ps (by rw [e, z])
  have hs : Same G H1 := fun a o e => ex a o (r.sub _ _ e) fun ps z => ng a ps (by rw [e, z])
  refine ⟨hs, fun a h => ?_, r.len, r.fz, fun i d e => ?_, r.ap, fun b e => ?_, r.bo⟩
  · obtain ⟨q1, q2, q3, q4, q5⟩ := r.fr a h
    have e := at_ a q3 q5
    exact ⟨q1, e.trans q2, by rw [e]; exact q3, q4, fun b' e' ps => by rw [e]; exact q5 b' e' ps⟩
  · obtain ⟨a, h1, h2, h3, h4⟩ := r.ow i d e
    exact ⟨a, h1, h2, h3, h4.sub (Same.refl G) (at_ a h4.some fun _ _ => h4.notbl)⟩
  · obtain ⟨ht, h1, x, m, c, ns, h2, h3, h4⟩ := r.bg b e
    exact ⟨⟨tb b e, ht.g⟩, h1, x, m, c, ns, ex _ _ h2 (fun ps z => by cases z), h3, h4⟩
theorem Ok2.gwB {K : PySem.W.Frag} {β : Option Bag} {G' H' : Hp} (o : Ok2 K β G H G' H') (hs : Same G H) : GwB K β G H G' H' := by
  refine ⟨o.g, o.s, fun a h hb nt => ?_, fun a h n nt => (o.k a h n nt).1, o.b⟩
  cases e : G a with
  | none => exact (o.k a h e nt).2 hb
  | some x => rw [o.s _ _ (o.g _ _ e), hs _ _ e]
/-- what was taken into the frozen part for a call is given back -/
theorem Ok2.back {K : PySem.W.Frag} {β : Option Bag} {Gf G' H' : Hp} (o : Ok2 K β Gf H G' H') (hs : Same Gf H) (hg : Same G Gf) (ob : ∀ b, β = some b → BagOk K G H b) : ∃ G'', GwB K β G H G'' H' ∧ Same G'' G' := by
  let G2 : Hp := fun a => if G a = none ∧ H a ≠ none then none else G' a
  have g2 : ∀ a x, G2 a = some x → G' a = some x := fun a x e => by
    have e : (if G a = none ∧ H a ≠ none then none else G' a) = some x := e
    split at e
    · cases e
    · exact e
  have g3 : ∀ a x, G a = some x → G2 a = some x := fun a x e => by
    show (if G a = none ∧ H a ≠ none then none else G' a) = some x
    rw [if_neg (by rw [e]; exact fun z => nomatch z.1)]
    exact o.g _ _ (hg _ _ e)
  have g4 : ∀ a, H a ≠ none → G a = none → G2 a = none := fun a h n => by
    show (if G a = none ∧ H a ≠ none then none else G' a) = none
    rw [if_pos ⟨n, h⟩]
  refine ⟨G2, ⟨g3, fun a x e => o.s _ _ (g2 a x e), fun a h hb nt => (o.gwB hs).h a h hb nt, fun a h n _ => g4 a h n, fun b hb => ?_⟩, g2⟩
  obtain ⟨ht, h1, x, m, c, ns, h2, h3, h4⟩ := o.b b hb
  have q := ob b hb
  have q2 := q.some
  obtain ⟨pt, p1, x', m', c', ns', p2, p3, p4⟩ := q
  refine ⟨⟨ht.t, fun a ps e => ht.g a ps (g2 a _ e)⟩, g4 b.1 q2 p1, x, m, c, ns, h2, ?_, h4⟩
  have e := o.g _ _ (hg _ _ p3)
  rw [e] at h3
  rw [g3 _ _ p3]
  exact h3
/-- a new list is changed -/
theorem Rl.mutN {a : Addr} {d d' : D} {o : HO} (r : Rl F G H σ ρ) (n : Nw F G H σ ρ a d) (c : Con F.K G (upd H a o) a d') : Rl F G (upd H a o) σ ρ ∧ Nw F G (upd H a o) σ ρ a d' := by
  have hsub : Same G (upd H a o) := fun b x e => by
    have hb : b ≠ a := fun z => by rw [z, n.gn] at e; cases e
    rw [upd_ne hb]; exact r.sub _ _ e
  refine ⟨⟨hsub, fun b q => ?_, r.len, r.fz, fun j e q => ?_, r.ap, fun b e => ?_, r.bo⟩, ⟨n.np, n.gn, c, n.sl, n.bg⟩⟩
  · have hb : b ≠ a := fun z => n.np (z ▸ q)
    have nt : ntb ρ.bag (upd H a o) b := fun b' e' ps => by rw [upd_ne hb]; exact (r.fr b q).2.2.2.2 b' e' ps
    rw [upd_ne hb]; exact ⟨(r.fr b q).1, (r.fr b q).2.1, (r.fr b q).2.2.1, (r.fr b q).2.2.2.1, nt⟩
  · obtain ⟨b, q1, q2, q3, q4⟩ := r.ow j e q
    have hb : b ≠ a := fun z => n.sl j e q (z ▸ q1)
    exact ⟨b, q1, q2, q3, q4.sub (Same.refl G) (upd_ne hb)⟩
  · have q := r.bg b e
    refine q.sub (Same.refl G) q.2.1 (upd_ne (n.bg b e)) (fun _ _ hq => hq) (fun x ps hq => ?_) fun c' q hq => ?_
    · by_cases z : x = a
      · subst z; exact absurd hq (n.con.notbl ps)
      · rw [upd_ne z]; exact hq
    · by_cases z : c' = a
      · subst z; exact absurd hq (n.con.nocode q)
      · rw [upd_ne z]; exact hq
/-! ### the slots of a comprehension -/
theorem wipes_len (ρ : Sta) : ∀ is : List Nat, (wipes ρ is).sl.length = ρ.sl.length
  | [] => rfl
  | i :: is => by rw [wipes, put_sl, List.length_set]; exact wipes_len ρ is
theorem wipes_bag (ρ : Sta) : ∀ is : List Nat, (wipes ρ is).bag = ρ.bag
  | [] => rfl
  | i :: is => by rw [wipes, put_bag]; exact wipes_bag ρ is
theorem wipes_fz {ρ : Sta} {j : Nat} {d : D} : ∀ {is : List Nat}, (wipes ρ is).sl[j]? = some (.fz d) → ρ.sl[j]? = some (.fz d) ∧ j ∉ is
  | [], h => ⟨h, by simp⟩
  | i :: is, h => by
    rcases put_at h with ⟨e, z⟩ | ⟨ne, h⟩
    · cases z
    · obtain ⟨h1, h2⟩ := wipes_fz h
      exact ⟨h1, by rw [List.mem_cons, not_or]; exact ⟨ne, h2⟩⟩
theorem wipes_ow {ρ : Sta} {j : Nat} {d : D} : ∀ {is : List Nat}, (wipes ρ is).sl[j]? = some (.ow d) → ρ.sl[j]? = some (.ow d) ∧ j ∉ is
  | [], h => ⟨h, by simp⟩
  | i :: is, h => by
    rcases put_at h with ⟨e, z⟩ | ⟨ne, h⟩
    · cases z
    · obtain ⟨h1, h2⟩ := wipes_ow h
      exact ⟨h1, by rw [List.mem_cons, not_or]; exact ⟨ne, h2⟩⟩
theorem wipe_off {σ : L2.St} {j : Nat} : ∀ {is : List Nat}, j ∉ is → (wipe σ is)[j]? = σ[j]?
  | [], _ => rfl
  | i :: is, h => by
    rw [List.mem_cons, not_or] at h
    unfold wipe
    rw [List.getElem?_set_ne (Ne.symm h.1)]
    exact wipe_off h.2
theorem wipe_on {σ : L2.St} {j : Nat} (hj : j < σ.length) : ∀ {is : List Nat}, j ∈ is → (wipe σ is)[j]? = some none
  | [], h => by simp at h
  | i :: is, h => by
    unfold wipe
    by_cases e : j = i
    · subst e
      rw [List.getElem?_set_self (by rw [wipe_length]; exact hj)]
    · rw [List.getElem?_set_ne (Ne.symm e)]
      exact wipe_on hj ((List.mem_cons.mp h).resolve_left e)
theorem wipe_eq {σ σ' : L2.St} {is : List Nat} (hl : σ'.length = σ.length) (h : ∀ j, j ∉ is → σ'[j]? = σ[j]?) : wipe σ' is = wipe σ is := by
  apply List.ext_getElem?
  intro j
  by_cases hj : j ∈ is
  · by_cases hb : j < σ.length
    · rw [wipe_on hb hj, wipe_on (by omega) hj]
    · rw [List.getElem?_eq_none (by rw [wipe_length]; omega), List.getElem?_eq_none (by rw [wipe_length]; omega)]
  · rw [wipe_off hj, wipe_off hj]
    exact h j hj
theorem wipe_wipe (σ : L2.St) (is : List Nat) : wipe (wipe σ is) is = wipe σ is := wipe_eq (wipe_length σ is) fun _ h => wipe_off h
theorem Rl.wipe {is : List Nat} (r : Rl F G H σ ρ) : Rl F G H (L2.wipe σ is) (wipes ρ is) := by
  refine ⟨r.sub, fun a h => by rw [wipes_bag]; exact r.fr a h, by rw [wipe_length, wipes_len]; exact r.len, fun i d e => ?_, fun i d e => ?_, fun i j d e a h1 h2 s1 s2 => ?_, fun b h => r.bg b (by rw [← wipes_bag ρ is]; exact h), fun b i d h e => ?_⟩
  · obtain ⟨h1, h2⟩ := wipes_fz e
    rw [wipe_off h2]; exact r.fz i d h1
  · obtain ⟨h1, h2⟩ := wipes_ow e
    rw [wipe_off h2]; exact r.ow i d h1
  · obtain ⟨p1, p2⟩ := wipes_ow h1
    obtain ⟨p3, p4⟩ := wipes_ow h2
    rw [wipe_off p2] at s1
    rw [wipe_off p4] at s2
    exact r.ap i j d e a p1 p3 s1 s2
  · obtain ⟨h1, h2⟩ := wipes_ow e
    rw [wipe_off h2]; exact r.bo b i d (by rw [← wipes_bag ρ is]; exact h) h1
theorem Nw.wipe {is : List Nat} {a : Addr} {d : D} (n : Nw F G H σ ρ a d) : Nw F G H (L2.wipe σ is) (wipes ρ is) a d :=
  ⟨n.np, n.gn, n.con, fun i e h => by
    obtain ⟨h1, h2⟩ := wipes_ow h
    rw [wipe_off h2]; exact n.sl i e h1, by rw [wipes_bag]; exact n.bg⟩
theorem backs_len (ρ0 ρ : Sta) : ∀ is : List Nat, (backs ρ0 ρ is).sl.length = ρ.sl.length
  | [] => rfl
  | i :: is => by rw [backs, put_sl, List.length_set]; exact backs_len ρ0 ρ is
theorem backs_bag (ρ0 ρ : Sta) : ∀ is : List Nat, (backs ρ0 ρ is).bag = ρ.bag
  | [] => rfl
  | i :: is => by rw [backs, put_bag]; exact backs_bag ρ0 ρ is
theorem backs_fz {ρ0 ρ : Sta} {j : Nat} {d : D} : ∀ {is : List Nat}, (backs ρ0 ρ is).sl[j]? = some (.fz d) → (j ∈ is ∧ ρ0.sl[j]? = some (.fz d)) ∨ (j ∉ is ∧ ρ.sl[j]? = some (.fz d))
  | [], h => .inr ⟨by simp, h⟩
  | i :: is, h => by
    rcases put_at h with ⟨e, z⟩ | ⟨ne, h⟩
    · subst e
      split at z
      · rename_i d' q
        cases z
        exact .inl ⟨by simp, q⟩
      · cases z
    · rcases backs_fz h with ⟨h1, h2⟩ | ⟨h1, h2⟩
      · exact .inl ⟨List.mem_cons_of_mem _ h1, h2⟩
      · exact .inr ⟨by rw [List.mem_cons, not_or]; exact ⟨ne, h1⟩, h2⟩
theorem backs_ow {ρ0 ρ : Sta} {j : Nat} {d : D} : ∀ {is : List Nat}, (backs ρ0 ρ is).sl[j]? = some (.ow d) → j ∉ is ∧ ρ.sl[j]? = some (.ow d)
  | [], h => ⟨by simp, h⟩
  | i :: is, h => by
    rcases put_at h with ⟨e, z⟩ | ⟨ne, h⟩
    · subst e
      split at z <;> cases z
    · obtain ⟨h1, h2⟩ := backs_ow h
      exact ⟨by rw [List.mem_cons, not_or]; exact ⟨ne, h1⟩, h2⟩
theorem Rl.backs {is : List Nat} {G1 H1 : Hp} {ρ1 : Sta} (r : Rl F G H (L2.wipe σ is) ρ) (r1 : Rl F G1 H1 σ ρ1) (g : Same G1 G) : Rl F G H σ (DI.backs ρ1 ρ is) := by
  refine ⟨r.sub, fun a h => by rw [backs_bag]; exact r.fr a h, ?_, fun i d e => ?_, fun i d e => ?_, fun i j d e a h1 h2 s1 s2 => ?_, fun b h => r.bg b (by rw [← backs_bag ρ1 ρ is]; exact h), fun b i d h e => ?_⟩
  · rw [backs_len, ← r.len, wipe_length]
  · rcases backs_fz e with ⟨h1, h2⟩ | ⟨h1, h2⟩
    · obtain ⟨v, q1, q2⟩ := r1.fz i d h2
      exact ⟨v, q1, q2.mono g⟩
    · have q := r.fz i d h2
      rwa [wipe_off h1] at q
  · obtain ⟨h1, h2⟩ := backs_ow e
    have q := r.ow i d h2
    rwa [wipe_off h1] at q
  · obtain ⟨p1, p2⟩ := backs_ow h1
    obtain ⟨p3, p4⟩ := backs_ow h2
    refine r.ap i j d e a p2 p4 ?_ ?_
    · rw [wipe_off p1]; exact s1
    · rw [wipe_off p3]; exact s2
  · obtain ⟨h1, h2⟩ := backs_ow e
    have q := r.bo b i d (by rw [← backs_bag ρ1 ρ is]; exact h) h2
    rwa [wipe_off h1] at q
theorem Nw.backs {is : List Nat} {ρ1 : Sta} {a : Addr} {d : D} (n : Nw F G H (L2.wipe σ is) ρ a d) : Nw F G H σ (DI.backs ρ1 ρ is) a d :=
  ⟨n.np, n.gn, n.con, fun i e h => by
    obtain ⟨h1, h2⟩ := backs_ow h
    have q := n.sl i e h2
    rwa [wipe_off h1] at q, by rw [backs_bag]; exact n.bg⟩
/-- a list of names takes the items of a tuple -/
theorem asgN_rl : ∀ {is : List Nat} {ds : List D} {vs : List V} {σ : L2.St} {ρ ρ' : Sta}, Rl F G H σ ρ → RpA F.K G vs ds → asgN is ds ρ = some ρ' → Rl F G H ((is.zip vs).foldl (fun s p => s.set p.1 (some p.2)) σ) ρ'
  | [], [], vs, σ, ρ, ρ', r, h, e => by
    cases h; cases e; exact r
  | i :: is, d :: ds, _, σ, ρ, ρ', r, .cons (v := v) h1 h2, e => by
    have r2 := r.put_fz (i := i) h1
    exact asgN_rl (is := is) r2 h2 e
  | [], _ :: _, _, _, _, _, _, _, e => by cases e
  | _ :: _, [], _, _, _, _, _, _, e => by cases e
theorem asgN_len : ∀ {is : List Nat} {ds : List D} {ρ ρ' : Sta}, asgN is ds ρ = some ρ' → is.length = ds.length
  | [], [], _, _, _ => rfl
  | i :: is, d :: ds, ρ, ρ', e => by
    rw [List.length_cons, List.length_cons, asgN_len (is := is) (ds := ds) e]
  | [], _ :: _, _, _, e => by cases e
  | _ :: _, [], _, _, e => by cases e
theorem fold_len : ∀ (l : List (Nat × V)) (σ : L2.St), (l.foldl (fun s p => s.set p.1 (some p.2)) σ).length = σ.length
  | [], _ => rfl
  | p :: l, σ => by
    rw [List.foldl_cons, fold_len l, List.length_set]
theorem fold_off {j : Nat} : ∀ {l : List (Nat × V)} {σ : L2.St}, (∀ p ∈ l, p.1 ≠ j) → (l.foldl (fun s p => s.set p.1 (some p.2)) σ)[j]? = σ[j]?
  | [], _, _ => rfl
  | p :: l, σ, h => by
    rw [List.foldl_cons, fold_off (fun q hq => h q (List.mem_cons_of_mem _ hq)), List.getElem?_set_ne (h p (by simp))]
end
end DI

set_option Elab.async false
set_option linter.all false
set_option autoImplicit false
set_option maxRecDepth 100000
set_option maxHeartbeats 1000000
/-! DIz: zip of a tuple or a list with a tuple or a list, in any mix. -/
namespace DI
open PySem PySem.Spec PyProof.Rows L2

/-- a tuple (true) or a list at an address -/
def SqX (k : Bool) (K : PySem.W.Frag) (H : Hp) (a : Addr) (xs : List V) : Prop := match k with
  | true => SqT K H a xs
  | false => SqL K H a xs
def IterX (k : Bool) (h : Heap) (it a : Addr) (i : Nat) : Prop := match k with
  | true => h.IsTupleIter it a i
  | false => h.IsListIter it a i
def HasX (k : Bool) (h : Heap) (a : Addr) (its : Array Value) : Prop := match k with
  | true => h.IsTuple a its
  | false => h.IsList a its
def ObX (k : Bool) (a : Addr) : Obj := match k with
  | true => { cls := .type "tuple_iterator", data := .fields #[.ref a, .int 0 0] }
  | false => { cls := .type "list_iterator", data := .fields #[.ref a, .int 0 0] }
theorem drawsX (k : Bool) {prog : Program} {w : World} {A : Around} (hh : A.handled = none) (it t : Addr) (hne : t ≠ it) (items : Array Value) :
    Draws prog w A it [it, t] items.size (fun i v => items[i]? = some v) (fun i h => IterX k h it t i ∧ HasX k h t items) := by
  cases k
  · exact Draws.list hh it t hne items
  · exact Draws.tuple hh it t hne items
theorem beginsX (k : Bool) (a : Addr) (items : Array Value) : Begins (.ref a) (ObX k a) fun h => HasX k h a items := by
  cases k
  · exact begins_list a items
  · exact begins_tuple a items
theorem iterX_new {k : Bool} {h : Heap} {it a : Addr} (e : h.get? it = some (ObX k a)) : IterX k h it a 0 := by
  cases k <;> exact ⟨_, e, rfl, rfl⟩
theorem IterX.at {k : Bool} {h h' : Heap} {it a : Addr} {i : Nat} (x : IterX k h it a i) (f : ∀ o, h.get? it = some o → h'.get? it = some o) : IterX k h' it a i := by
  cases k
  · exact Heap.IsListIter.at x f
  · exact Heap.IsTupleIter.at x f
theorem IterX.obj {k : Bool} {h : Heap} {it a : Addr} {i : Nat} (x : IterX k h it a i) : ∃ o, h.get? it = some o ∧ ∀ v, o.data ≠ .cell v := by
  cases k <;> (obtain ⟨o, e, _, d⟩ := x; exact ⟨o, e, fun v q => by rw [d] at q; cases q⟩)
section
variable {X : Cx} {pins : List (Addr × Obj)} {σ : L2.St} {H : Hp} {s : Shared}
theorem sqX_of {k : Bool} {a : Addr} {xs : List V} (I : Inv X pins σ H s) (h : SqX k X.K H a xs) : ∃ its : List Value, Vals xs its ∧ HasX k s.heap a its.toArray ∧ a < s.heap.objs.size := by
  cases k
  · obtain ⟨its, rv, p, _⟩ := I.list h
    exact ⟨its, rv, p.isList, p.lt⟩
  · obtain ⟨its, rv, p, _⟩ := I.tuple h
    obtain ⟨o, ho, _⟩ := id p
    exact ⟨its, rv, p, Heap.lt_size ho⟩
theorem sqX_inj {k : Bool} {a : Addr} {xs ys : List V} (I : Inv X pins σ H s) (h : SqX k X.K H a xs) (h' : SqX k X.K H a ys) : xs = ys := by
  cases k
  · exact I.list_inj h h'
  · exact I.tuple_inj h h'
end
/-- what stands at a and b at each turn, the items in new pairs -/
def ItX (K : PySem.W.Frag) (k l : Bool) (a b : Addr) : It :=
  ⟨fun i H => ∃ (xs ys : List V) (x y : V), SqX k K H a xs ∧ SqX l K H b ys ∧ xs[i]? = some x ∧ ys[i]? = some y,
    fun i H v H' => ∃ T x y, v = .ref T ∧ H T = none ∧ H' = upd H T (.tup [x, y]) ∧ (∀ xs, SqX k K H a xs → xs[i]? = some x) ∧ ∀ ys, SqX l K H b ys → ys[i]? = some y,
    fun i H => ∃ xs ys : List V, SqX k K H a xs ∧ SqX l K H b ys ∧ i ≤ xs.length ∧ i ≤ ys.length ∧ (i = xs.length ∨ i = ys.length)⟩
theorem sepX {z TI TO i1 i2 a b : Addr} (D : ZipApart z TI TO i1 i2 a b) : ZipSep2 z TI TO i1 i2 [i1, a] [i2, b] where
  TIz := D.TIz
  TOz := D.TOz
  TITO := D.TITO
  TIi1 := D.TIi1
  mem1 := by simp
  zf1 := by simp only [List.mem_cons, List.not_mem_nil, or_false, not_or]; exact ⟨D.i1z.symm, D.l1z.symm⟩
  Tf1 := by simp only [List.mem_cons, List.not_mem_nil, or_false, not_or]; exact ⟨D.TOi1, D.l1TO.symm⟩
  TIi2 := D.TIi2
  mem2 := by simp
  zf2 := by simp only [List.mem_cons, List.not_mem_nil, or_false, not_or]; exact ⟨D.i2z.symm, D.l2z.symm⟩
  Tf2 := by simp only [List.mem_cons, List.not_mem_nil, or_false, not_or]; exact ⟨D.TOi2, D.l2TO.symm⟩
  sep1_2 := by simp only [List.mem_cons, List.not_mem_nil, or_false, not_or]; exact ⟨D.i12, D.l2i1.symm⟩
  sep2_1 := by simp only [List.mem_cons, List.not_mem_nil, or_false, not_or]; exact ⟨D.i12.symm, D.l1i2.symm⟩
theorem turn_zipX {P : Program} {w : World} {K : PySem.W.Frag} {elts : List Expr} {kk : Nat} {tpos : Pos} {k l : Bool} {a b z TI TO i1 i2 : Addr} (D : ZipApart z TI TO i1 i2 a b) :
    Turn P w K (.Tuple elts kk tpos) (ItX K k l a b) [z, TI, TO, i1, i2] z (fun i h => IsZip h z TI TO .none ∧ IsTupOf2 h TI (.ref i1) (.ref i2) ∧ (∃ x y, IsTupOf2 h TO x y) ∧ IterX k h i1 a i ∧ IterX l h i2 b i) where
  mem := by simp
  obj := fun i h st c hc => by
    obtain ⟨hz, hTI, ⟨x, y, hTO⟩, h1, h2⟩ := st
    have e' : c = z ∨ c = TI ∨ c = TO ∨ c = i1 ∨ c = i2 := by simpa using hc
    rcases e' with q | q | q | q | q
    · rw [q]; exact ⟨_, hz, fun v q => nomatch q⟩
    · rw [q]; exact ⟨_, hTI, fun v q => nomatch q⟩
    · rw [q]; exact ⟨_, hTO, fun v q => nomatch q⟩
    · rw [q]; exact h1.obj
    · rw [q]; exact h2.obj
  keep := fun i h h' st k => by
    obtain ⟨hz, hTI, ⟨x, y, hTO⟩, h1, h2⟩ := st
    exact ⟨k z (by simp) _ hz, k TI (by simp) _ hTI, ⟨x, y, k TO (by simp) _ hTO⟩, h1.at fun o q => k i1 (by simp) o q, h2.at fun o q => k i2 (by simp) o q⟩
  item := by
    intro X hP hw hK hc i pins s σ H E I hf st hg
    subst hP hw hK
    obtain ⟨hz, hTI, ⟨x0, y0, hTO⟩, h1, h2⟩ := st
    obtain ⟨xs, ys, x, y, hqx, hqy, hx, hy⟩ := hg
    obtain ⟨its, rv, p, _⟩ := sqX_of I hqx
    obtain ⟨its2, rv2, p2, _⟩ := sqX_of I hqy
    obtain ⟨u, hu, ru⟩ := rv.get hx
    obtain ⟨u2, hu2, ru2⟩ := rv2.get hy
    have hzl : z < s.heap.objs.size := Heap.lt_size hz
    have hl1 : i < its.toArray.size := by
      have := (List.getElem?_eq_some_iff.mp hu).1
      simpa using this
    have hl2 : i < its2.toArray.size := by
      have := (List.getElem?_eq_some_iff.mp hu2).1
      simpa using this
    refine wpAny_pyNext_zipD2_item (sepX D) (drawsX k (A := X.A.in1) (show X.A.in1.handled = none from I.ok.hd hc) i1 a D.l1i1 its.toArray) (drawsX l (A := X.A.in1) (show X.A.in1.handled = none from I.ok.hd hc) i2 b D.l2i2 its2.toArray) hz hTI hTO ⟨h1, p⟩ ⟨h2, p2⟩ hl1 hl2 fun v1 v2 h' tk y1 y2 z' TO' h1' h2' hT hsz hk => ?_
    have e1 : v1 = u := by
      have q : its[i]? = some v1 := by simpa using y1
      rw [hu] at q
      exact (Option.some.inj q).symm
    have e2 : v2 = u2 := by
      have q : its2[i]? = some v2 := by simpa using y2
      rw [hu2] at q
      exact (Option.some.inj q).symm
    subst e1 e2
    refine ⟨_, rfl, wpAny_letOwnedTupleGo_zip (s := { s with heap := h', toks := tk }) z' fun h'' z'' sb => ?_⟩
    have hT2 : h''.get? s.heap.objs.size = some { cls := .type "tuple", data := .seq #[v1, v2] } := (sb.2 _ (Nat.ne_of_gt hzl)).trans hT
    have new : ObjOk X.prog X.w (upd H s.heap.objs.size (.tup [x, y])) h'' s.heap.objs.size (.tup [x, y]) :=
      ⟨by show 2 ≤ sizeLine; decide, [v1, v2], .cons ru (.cons ru2 .nil), ⟨_, hT2, rfl, _, rfl⟩⟩
    have I1 : Inv X pins σ (upd H s.heap.objs.size (.tup [x, y])) { s with heap := h'', toks := tk } :=
      I.turnedNew (t' := tk) (ch := [z, TI, TO, i1, i2]) (fun c o hb q => (sb.2 c (fun q' => hb (by simp [q']))).trans (hk c o (fun q' => hb (by simp [q'])) (fun q' => hb (by simp [q'])) (fun q' => hb (by simp [q'])) (fun q' => hb (by simp [q'])) q)) hf (Nat.le_refl _) new
    refine ⟨.ref s.heap.objs.size, _, I1, rfl, ⟨_, x, y, rfl, I.hok.fresh (Nat.le_refl _), rfl, fun l hl => by rw [sqX_inj I hl hqx]; exact hx, fun l hl => by rw [sqX_inj I hl hqy]; exact hy⟩, ⟨z'', ?_, ⟨v1, v2, ?_⟩, ?_, ?_⟩, fun c hcm => ?_⟩
    · exact (sb.2 _ D.TIz).trans (hk _ _ D.TIz D.TITO D.TIi1 D.TIi2 hTI)
    · exact (sb.2 _ D.TOz).trans TO'
    · exact h1'.1.at fun o q => (sb.2 _ D.i1z).trans q
    · exact h2'.1.at fun o q => (sb.2 _ D.i2z).trans q
    · have hlt : c < s.heap.objs.size := by
        have e' : c = z ∨ c = TI ∨ c = TO ∨ c = i1 ∨ c = i2 := by simpa using hcm
        rcases e' with q | q | q | q | q
        · rw [q]; exact hzl
        · rw [q]; exact Heap.lt_size hTI
        · rw [q]; exact Heap.lt_size hTO
        · rw [q]; obtain ⟨_, e1, _⟩ := h1.obj; exact Heap.lt_size e1
        · rw [q]; obtain ⟨_, e2, _⟩ := h2.obj; exact Heap.lt_size e2
      rw [upd_ne (Nat.ne_of_lt hlt)]
      exact (hf c hcm).1
  done := by
    intro X hP hw hK hc i pins s σ H E I hf st hg
    subst hP hw hK
    obtain ⟨hz, hTI, ⟨x0, y0, hTO⟩, h1, h2⟩ := st
    obtain ⟨xs, ys, hqx, hqy, he1, he2, hend⟩ := hg
    obtain ⟨its, rv, p, _⟩ := sqX_of I hqx
    obtain ⟨its2, rv2, p2, _⟩ := sqX_of I hqy
    have l1 := rv.length
    have l2 := rv2.length
    refine wpAny_pyNext_zipD2_end (sepX D) (drawsX k (A := X.A.in1) (show X.A.in1.handled = none from I.ok.hd hc) i1 a D.l1i1 its.toArray) (drawsX l (A := X.A.in1) (show X.A.in1.handled = none from I.ok.hd hc) i2 b D.l2i2 its2.toArray) hz hTI hTO ⟨h1, p⟩ ⟨h2, p2⟩ (by simp; omega) (by simp; omega) (by simp; omega) fun h' tk hk => ⟨rfl, I.turnedL (t' := tk) (ch := [z, TI, TO, i1, i2]) (fun c o hb q =>
      hk c o (fun q' => hb (by simp [q'])) (fun q' => hb (by simp [q'])) (fun q' => hb (by simp [q'])) (fun q' => hb (by simp [q'])) q) hf⟩
  self := fun A i s Q E st h => wpAny_pyIter_zip st.1 h
def iZipX (K : PySem.W.Frag) (ta : TA) : TI := fun σ H R => ta σ H fun vs H1 => ∃ k l a b xs ys, vs = [.ref a, .ref b] ∧ SqX k K H1 a xs ∧ SqX l K H1 b ys ∧ R (ItX K k l a b) H1
theorem pi_zipX {X : Cx} {e e2 : Expr} {ta : TA} {p pos tpos : Pos} {elts : List Expr} {kk : Nat} (hg : Gl X "zip") (hm : X.mg "zip" = none) (ha : PA X [e, e2] ta)
    (hs : starEach [e, e2] X.env = (false, eval e X.env) :: starEach [e2] X.env) (hpl : (backTo pos (starEach [e2] X.env)).any (·.1) = false) :
    PI X (.Tuple elts kk tpos) (.Call (.Name "zip" p) [e, e2] [] pos) (iZipX X.K ta) := by
  refine ⟨fun pins s σ H R I h => ?_⟩
  refine Call_ (ld_blt I hg hm PyProof.Rows.boot_zip (PyProof.Rows.callWith_type1 (thn (ha.run pos pins s σ H _ I h) fun us s1 ⟨vs, H1, I1, r1, q1⟩ => ?_) hs hpl))
  obtain ⟨k, l, a, b, xs, ys, ex, hqx, hqy, q⟩ := q1
  subst ex
  cases r1 with
  | cons r rr =>
    cases rr with
    | cons r' rr =>
      cases rr
      cases r
      cases r'
      have fresh5 : ∀ c, c ∈ [s1.heap.objs.size + 4, s1.heap.objs.size + 2, s1.heap.objs.size + 3, s1.heap.objs.size, s1.heap.objs.size + 1] → FpOk X pins H1 c := fun c hcm => by
        have hle : s1.heap.objs.size ≤ c := by
          simp only [List.mem_cons, List.not_mem_nil, or_false] at hcm
          rcases hcm with z | z | z | z | z <;> (rw [z]; first | exact Nat.le_add_right _ _ | exact Nat.le_refl _)
        exact I1.fpOk hle (I1.hok.fresh hle)
      obtain ⟨its, rv, p1, lt1⟩ := sqX_of I1 hqx
      obtain ⟨its2, rv2, p2, lt2⟩ := sqX_of I1 hqy
      refine zip_begins2 (beginsX k a its.toArray) (beginsX l b its2.toArray) p1 p2 fun h' hz hTI hTO h1 h2 hsz hk => wpAny_pyIter_zip hz ?_
      have I2 : Inv X pins σ H1 { s1 with heap := h' } := I1.kept (t' := s1.toks) hk
      exact ⟨s1.heap.objs.size + 4, [s1.heap.objs.size + 4, s1.heap.objs.size + 2, s1.heap.objs.size + 3, s1.heap.objs.size, s1.heap.objs.size + 1], _, _, H1, rfl, I2, turn_zipX (PySem.W.ktu_apart s1.heap.objs.size a b lt1 lt2), ⟨hz, hTI, ⟨_, _, hTO⟩, iterX_new h1, iterX_new h2⟩, fresh5, q⟩
/-! ### enumerate of a tuple or a list -/
theorem meets_enumX {v : Value} {o : Obj} {H : Heap → Prop} (B : Begins v o H) :
    Meets (Builtin.«enumerate.__new__» ⟨[.type "enumerate", v], []⟩) (fun _ R s => H s.heap ∧
      R (.ok (.ret (.ref (s.heap.push o).objs.size))) { s with heap := (s.heap.push o).push { cls := .type "enumerate", data := .fields #[.none, .bool false, .ref s.heap.objs.size, rawInt 0, .none, .none] } }) :=
  .of_wp fun prog w A R s h => by
    obtain ⟨hp, g, d, tk, os⟩ := s
    obtain ⟨h1, h⟩ := h
    have hsub := sub_enumerate
    have q1 : ∀ {A' : Around} {E : Value → Shared → Prop} {Q : Value → Shared → Prop}, Q (.ref hp.objs.size) ⟨hp.push o, g, d, tk, os⟩ → wpAny (model prog w) A' (pyIter v) Q E ⟨hp, g, d, tk, os⟩ :=
      fun q => B.iter prog w _ _ ⟨hp, g, d, tk, os⟩ _ h1 q
    wp_walk using q1
    refine wpAny_stack_any fun st => wpAny_pure ?_
    split
    · rename_i c _ _ _ _ _
      cases (c == Value.type "enumerate")
      · wp_walk using q1
        exact ⟨_, rfl, h⟩
      · wp_walk using q1
        exact ⟨_, rfl, h⟩
    · wp_walk using q1
      exact ⟨_, rfl, h⟩
theorem enumX_begins {prog : Program} {w : World} {A : Around} {E : Value → Shared → Prop} {s : Shared} {v : Value} {o : Obj} {H : Heap → Prop} {Q : Value → Shared → Prop} (B : Begins v o H) (h1 : H s.heap)
    (h : ∀ h', IsEnum h' (s.heap.objs.size + 1) s.heap.objs.size 0 .none → h'.get? s.heap.objs.size = some o → (∀ b o, s.heap.get? b = some o → h'.get? b = some o) → Q (.ref (s.heap.objs.size + 1)) { s with heap := h' }) :
    wpAny (model prog w) A (call (.type "enumerate") [v]) Q E s := by
  refine callType_new F.called_enumerate (by decide) (F.typeCall_enumerate_1 _) (F.newCall_enumerate_1 _) (fun obj => F.args_object_init_2 obj _) F.entry_enumerate_new (meets_enumX B) ⟨h1, ?_⟩
  have hz : (s.heap.push o).objs.size = s.heap.objs.size + 1 := Heap.size_push ..
  show _ ∧ _
  rw [hz]
  have he : IsEnum ((s.heap.push o).push { cls := .type "enumerate", data := .fields #[.none, .bool false, .ref s.heap.objs.size, rawInt 0, .none, .none] }) (s.heap.objs.size + 1) s.heap.objs.size 0 .none := by
    have q := Heap.get?_push_size (s.heap.push o) (o := { cls := .type "enumerate", data := .fields #[.none, .bool false, .ref s.heap.objs.size, rawInt 0, .none, .none] }) rfl
    rw [hz] at q
    exact q
  exact ⟨⟨_, he, rfl⟩, h _ he (Heap.get?_push_of_some _ (Heap.get?_push_size _ B.free)) fun b o x => Heap.get?_push_of_some _ (Heap.get?_push_of_some _ x)⟩
/-- what stands at a at each turn, each item in a new pair -/
def IeX (K : PySem.W.Frag) (k : Bool) (a : Addr) : It :=
  ⟨fun i H => ∃ (xs : List V) (x : V), SqX k K H a xs ∧ xs[i]? = some x, fun i H v H' => ∃ T x, v = .ref T ∧ H T = none ∧ H' = upd H T (.tup [.int (i : Nat), x]) ∧ ∀ xs, SqX k K H a xs → xs[i]? = some x, fun i H => ∃ xs : List V, SqX k K H a xs ∧ i = xs.length⟩
theorem turn_enumX {P : Program} {w : World} {K : PySem.W.Frag} {elts : List Expr} {kk : Nat} {tpos : Pos} {k : Bool} {a e it : Addr} (hae : a ≠ e) (hai : a ≠ it) (hne : e ≠ it) :
    Turn P w K (.Tuple elts kk tpos) (IeX K k a) [e, it] e (fun i h => (∃ old, IsEnum h e it ((i : Nat) : Int) old) ∧ IterX k h it a i) where
  mem := by simp
  obj := fun i h st b hb => by
    obtain ⟨⟨old, he⟩, h1⟩ := st
    have e' : b = e ∨ b = it := by simpa using hb
    rcases e' with z | z
    · rw [z]; exact ⟨_, he, fun v q => nomatch q⟩
    · rw [z]; exact h1.obj
  keep := fun i h h' st k => let ⟨⟨old, he⟩, hi⟩ := st; ⟨⟨old, k e (by simp) _ he⟩, hi.at fun o q => k it (by simp) o q⟩
  item := by
    intro X hP hw hK hc i pins s σ H E I hf st hg
    subst hP hw hK
    obtain ⟨⟨old, he⟩, hit⟩ := st
    obtain ⟨xs, x, hq, hx⟩ := hg
    obtain ⟨its, rv, p, hz⟩ := sqX_of I hq
    obtain ⟨u, hu, ru⟩ := rv.get hx
    have hel : e < s.heap.objs.size := Heap.lt_size he
    have hil : it < s.heap.objs.size := by obtain ⟨_, q, _⟩ := hit.obj; exact Heap.lt_size q
    have hl1 : i < its.toArray.size := by
      have := (List.getElem?_eq_some_iff.mp hu).1
      simpa using this
    refine wpAny_pyNext_enum_itemD (drawsX k (A := X.A.in1) (show X.A.in1.handled = none from I.ok.hd hc) it a hai its.toArray) he ⟨hit, p⟩ hl1 hne (by simp only [List.mem_cons, List.not_mem_nil, or_false, not_or]; exact ⟨hne, hae.symm⟩) fun v h' tk y ho hit' hT hsz hk => ?_
    have e1 : v = u := by
      have q : its[i]? = some v := by simpa using y
      rw [hu] at q
      exact (Option.some.inj q).symm
    subst e1
    refine ⟨_, rfl, wpAny_letOwnedTupleGo_enum (s := { s with heap := h', toks := tk + 1 }) ho fun h'' he' sb => ?_⟩
    have hT2 : h''.get? s.heap.objs.size = some { cls := .type "tuple", data := .seq #[.int i tk, v] } := (sb.2 _ (Nat.ne_of_gt hel)).trans hT
    have new : ObjOk X.prog X.w (upd H s.heap.objs.size (.tup [.int (i : Nat), x])) h'' s.heap.objs.size (.tup [.int (i : Nat), x]) :=
      ⟨by show 2 ≤ sizeLine; decide, [.int i tk, v], .cons ⟨_, rfl⟩ (.cons ru .nil), ⟨_, hT2, rfl, _, rfl⟩⟩
    have I1 : Inv X pins σ (upd H s.heap.objs.size (.tup [.int (i : Nat), x])) { s with heap := h'', toks := tk + 1 } :=
      I.turnedNew (ch := [e, it]) (fun b ob hb q => (sb.2 b (fun z => hb (by simp [z]))).trans (hk b ob (fun z => hb (by simp [z])) (fun z => hb (by simp [z])) q)) hf (Nat.le_refl _) new
    refine ⟨.ref s.heap.objs.size, _, I1, rfl, ⟨_, x, rfl, I.hok.fresh (Nat.le_refl _), rfl, fun ys hy => by rw [sqX_inj I hy hq]; exact hx⟩, ⟨⟨v, ?_⟩, hit'.1.at fun o q => (sb.2 it (Ne.symm hne)).trans q⟩, fun b hb => ?_⟩
    · have e1 : ((i + 1 : Nat) : Int) = (i : Int) + 1 := by omega
      rw [e1]; exact he'
    · have hb' : b < s.heap.objs.size := by
        have e' : b = e ∨ b = it := by simpa using hb
        rcases e' with z | z
        · rw [z]; exact hel
        · rw [z]; exact hil
      rw [upd_ne (Nat.ne_of_lt hb')]
      exact (hf b hb).1
  done := by
    intro X hP hw hK hc i pins s σ H E I hf st hg
    subst hP hw hK
    obtain ⟨⟨old, he⟩, hit⟩ := st
    obtain ⟨xs, hq, hx⟩ := hg
    obtain ⟨its, rv, p, hz⟩ := sqX_of I hq
    obtain ⟨f0, f1, f2, f3, f4, f5⟩ := hf it (by simp)
    have hl := rv.length
    have hi : i = its.toArray.size := by simp; omega
    exact wpAny_pyNext_enum_endD (drawsX k (A := X.A.in1) (show X.A.in1.handled = none from I.ok.hd hc) it a hai its.toArray) he ⟨hi ▸ hit, p⟩ fun h' eb => ⟨rfl, I.turned (t' := s.toks) (fun b o hb q => eb b o hb q) f0 f1 f3 f4 f5⟩
  self := fun A i s Q E st h => let ⟨⟨_, he⟩, _⟩ := st; wpAny_pyIter_enum he h
def iEnumX (K : PySem.W.Frag) (ta : TA) : TI := fun σ H R => ta σ H fun vs H1 => ∃ k a xs, vs = [.ref a] ∧ SqX k K H1 a xs ∧ R (IeX K k a) H1
theorem pi_enumX {X : Cx} {e : Expr} {ta : TA} {p pos tpos : Pos} {elts : List Expr} {kk : Nat} (hg : Gl X "enumerate") (hm : X.mg "enumerate" = none) (ha : PA X [e] ta) (hs : starEach [e] X.env = [(false, eval e X.env)]) :
    PI X (.Tuple elts kk tpos) (.Call (.Name "enumerate" p) [e] [] pos) (iEnumX X.K ta) := by
  refine ⟨fun pins s σ H R I h => ?_⟩
  refine Call_ (ld_blt I hg hm boot_enumerate (PyProof.Rows.callWith_type1 (thn (ha.run pos pins s σ H _ I h) fun us s1 ⟨vs, H1, I1, r1, q1⟩ => ?_) hs rfl))
  obtain ⟨k, a, xs, ex, hq, q⟩ := q1
  subst ex
  cases r1 with
  | cons r rr =>
    cases rr
    cases r
    obtain ⟨its, rv, p', lt⟩ := sqX_of I1 hq
    refine enumX_begins (beginsX k a its.toArray) p' fun h' he hit hk => wpAny_pyIter_enum he ?_
    have I2 : Inv X pins σ H1 { s1 with heap := h' } := I1.kept (t' := s1.toks) hk
    refine ⟨s1.heap.objs.size + 1, [s1.heap.objs.size + 1, s1.heap.objs.size], _, _, H1, rfl, I2, turn_enumX (Nat.ne_of_lt (Nat.lt_succ_of_lt lt)) (Nat.ne_of_lt lt) (Nat.succ_ne_self _), ⟨⟨.none, he⟩, iterX_new hit⟩, fun b hb => ?_, q⟩
    have e' : b = s1.heap.objs.size + 1 ∨ b = s1.heap.objs.size := by simpa using hb
    have hle : s1.heap.objs.size ≤ b := by
      rcases e' with z | z
      · rw [z]; exact Nat.le_add_right _ _
      · rw [z]; exact Nat.le_refl _
    exact I1.fpOk hle (I1.hok.fresh hle)
end DI

set_option Elab.async false
set_option linter.all false
set_option autoImplicit false
set_option maxRecDepth 100000
set_option maxHeartbeats 1000000
/-! DI3c: the context of a body; targets; what is walked; small facts about the text. -/
namespace DI
open PySem PySem.Spec PyProof.Rows L2

def bnames : List Str := ["len", "abs", "int", "str", "list", "tuple", "sorted", "repr", "all", "any", "sum", "range", "enumerate", "isinstance", "dict", "set", "zip", "bool", "min", "max"]
def FnAt (T : Tb) (X : Cx) (gd : Bool) (x : Str) (k : Nat) : Prop := ∃ (f : Addr) (fd : FuncData) (ps : List Str) (lv : Nat), X.mg x = some (.ref f) ∧ PySem.W.keepIn X.K (.ref f) = true ∧ Binds X.K fd ps [] ∧ Room lv X.A ∧
  FnG X.prog X.w X.K X.mg X.base gd lv f fd ps (liftSp X.K (T.fn k))
/-- a def that may end by an error -/
def FnXAt (T : Tb) (X : Cx) (x : Str) (k : Nat) : Prop := ∃ (f : Addr) (fd : FuncData) (ps : List Str) (lv : Nat), X.mg x = some (.ref f) ∧ PySem.W.keepIn X.K (.ref f) = true ∧ Binds X.K fd ps [] ∧ Room (lv + 2) X.A ∧
  FnOk X.prog X.w X.K X.mg X.base (L2.CX X.prog X.w) lv f fd ps (liftSpX X.K T.cn T.fx (T.xfn k))
/-- the error is made -/
def MkAt (T : Tb) (X : Cx) (x : Str) : Prop := ∀ {e : Expr} {te : TE} {p pos : Pos}, PE X e te → noStar e = true →
  PMk X (.Call (.Name x p) [e] [] pos) fun σ H Q => te σ H fun v H1 => ∀ dx, H1 dx = none → Q (.ref T.cn) (some dx) (upd H1 dx (.xd [(T.fx, v)]))
/-- what the def that hears makes of what it is given -/
def TTh (T : Tb) : (XK → Hp → VK → Prop) → Hp → VK → Prop := fun tl H Q =>
  tl (fun cls d H' => cls = .ref T.cn ∧ ∃ dx v, d = some dx ∧ H' dx = some (.xd [(T.fx, v)]) ∧ ∀ p, H' p = none → Q (.ref p) (upd H' p (.tup [.str "row", v]))) H fun v H' => ∀ p, H' p = none → Q (.ref p) (upd H' p (.tup [.str "told", v]))
/-- x(lambda: body) -/
def HeardAt (T : Tb) (X : Cx) (x : Str) : Prop := ∀ {params : Arguments} {body : Expr} {scope : Scope} {t : XK → TE} {p lpos pos : Pos} {k : Nat}, Room (k + 2) X.A → LamX.LamS X.env.scope scope → noPrm params = true →
  (∀ (A : Around) (outer : List PySem.Env) (s : Shared) (H : Hp) (E : XK) (f c' : Addr), Room k (A.deeper (LamX.lamEnv X scope s.heap.objs.size f c')) → PE (LamX.lamCx X A outer s H E scope f c') body (t E)) →
  PE X (.Call (.Name x p) [.Lambda params body scope lpos] [] pos) (LamX.tLam T.tabs (TTh T) t)
structure CxOk (T : Tb) (X : Cx) (S : SC) : Prop where
  good : Good X
  hW : T.W = (X.prog, X.w)
  hN : X.N = S.N
  hsc : X.env.scope = S.sc
  hfn : X.fn = S.fnm
  kind : S.sc.kind = .function
  nd : X.N.Nodup
  tm : T.Mono
  bfree : ∀ x ∈ bnames, X.mg x = none
  fns : ∀ k, k < S.n → FnAt T X (S.fg k) (S.fn k) k
  gd : S.gd = true → X.A.guards = some []
  xfns : ∀ k, k < S.nx → FnXAt T X (S.xf k) k
  hrd : ∀ h, S.hd = some h → HeardAt T X h
  mke : S.rs = true → MkAt T X S.nr
  gds : ∀ k, k < S.ngd → ∃ d es n, X.mg (S.gdn k) = some (.ref d) ∧ KDict X.K X.w d es n ∧ TabOf X.K d (T.gd k)
  gls : ∀ k, k < S.ng → ∃ v u, X.mg (S.gl k) = some u ∧ RelV v u ∧ ∀ G, Rp X.K G v (T.gl k)
  pass : PassesOwn (model X.prog X.w) X.A X.env X.xe

section
variable {T : Tb} {X : Cx} {S : SC}
theorem vis_of (c : CxOk T X S) {x : Str} (h : visB S.sc x = true) : Vis X.env.scope x := by
  unfold visB at h
  unfold Vis
  rw [c.hsc]
  split at h
  · exact .inl (by assumption)
  · exact .inr (.inl (by assumption))
  · exact .inr (.inr (by assumption))
  · cases h
theorem glo_of (c : CxOk T X S) {x : Str} (h : gloB S.sc x = true) : Gl X x := by
  unfold gloB at h
  show X.env.scope.names.lookup x = _
  rw [c.hsc]
  split at h
  · assumption
  · cases h
theorem loc_of (c : CxOk T X S) {x : Str} (h : locB S x = true) : L2.Loc X.env.scope x ∧ (X.fn x = true ∨ X.env.scope.names.lookup x = some .local) := by
  unfold locB at h
  unfold L2.Loc
  rw [c.hsc, c.hfn]
  split at h
  · exact ⟨.inl (by assumption), .inr (by assumption)⟩
  · exact ⟨.inr (by assumption), .inl h⟩
  · cases h
theorem name_of (c : CxOk T X S) {i : Nat} {x : Str} {pos : Pos} (h : nameIs S i x = true) : PE X (.Name x pos) (tVar i) := by
  unfold nameIs at h
  simp only [Bool.and_eq_true, decide_eq_true_eq, Bool.not_eq_true'] at h
  exact pe_var (by rw [c.hN]; exact h.1.1.1) (vis_of c h.1.1.2) h.1.2 h.2
/-! ### the text -/
theorem star_of {e : Expr} {es : List Expr} {env : PySem.Env} (h : noStar e = true) : starEach (e :: es) env = (false, eval e env) :: starEach es env := by
  cases e <;> first | rfl | cases h
theorem chkA_star {cs : CA} {es : List Expr} (h : chkA S cs es = true) : ∀ env pos, (backTo pos (starEach es env)).any (·.1) = false ∧ (backTo pos (starEach es env)).all (fun x => !x.1) = true := by
  induction es generalizing cs with
  | nil => intro env pos; exact ⟨rfl, rfl⟩
  | cons e es ih =>
    intro env pos
    cases cs with
    | nil => simp [chkA] at h
    | star c cs => simp [chkA] at h
    | cons c cs =>
      simp only [chkA, Bool.and_eq_true] at h
      rw [star_of h.1.1]
      have q := ih h.2 env pos
      unfold backTo at q ⊢
      rw [List.map_cons, List.any_cons, List.all_cons]
      exact ⟨by simpa using q.1, by simpa using q.2⟩
theorem chkA_head {cs : CA} {e : Expr} {es : List Expr} (h : chkA S cs (e :: es) = true) : noStar e = true := by
  cases cs with
  | nil => simp [chkA] at h
  | star c cs => simp [chkA] at h
  | cons c cs => simp only [chkA, Bool.and_eq_true] at h; exact h.1.1
theorem ix_of {b : Expr} (h : noSlice b = true) : PlainIx b := by
  intro o i
  cases b <;> first | rfl | cases h
theorem plain_of {e : Expr} (h : plainT e = true) (env : PySem.Env) : ∀ whole, isTrue e env whole = (do let v ← whole; standAt e.pos; holding [v] (truthy v)) := by
  intro whole
  cases e <;> first | rfl | cases h
theorem set_of {e : Expr} (h : noSet e = true) (env : PySem.Env) : ∀ x, foldedSetIterable e env x = pure x := by
  intro x
  cases e <;> first | rfl | cases h
theorem swap_of {e : Expr} (h : noComp e = true) (t : Option Expr) (l : Nat) (env : PySem.Env) : swapsWith e t l env = pure false := by
  cases e <;> first | rfl | cases h
theorem isBin_of {o : O2} {op : Operator} (h : isBin o op = true) : o.sort = .bin op := by
  cases o <;> cases op <;> first | rfl | cases h
theorem isCmp_of {o : O2} {op : CmpOp} (h : isCmp o op = true) : o.sort = .cmp op := by
  cases o <;> cases op <;> first | rfl | cases h
theorem isIdx_of {o : O2} (h : isIdx o = true) : o.sort = .idx := by
  cases o <;> first | rfl | cases h

/-! ### targets -/
def CG.slots : CG → List Nat
  | .name i => [i]
  | .tup is => is
def LG (K : PySem.W.Frag) (g : CG) : TG := fun x σ H Q => ∃ F G ρ d, F.K = K ∧ Rl F G H σ ρ ∧ Rp F.K G x d ∧ asgG g d ρ fun ρ' => ∀ σ', σ'.length = σ.length → (∀ j, j ∉ g.slots → σ'[j]? = σ[j]?) → Rl F G H σ' ρ' → Q σ' H
theorem tgt_of (c : CxOk T X S) {i : Nat} {x : Str} {pos : Pos} (h : tgtIs S i x = true) : PG X (.Name x pos) (gName i) := by
  unfold tgtIs at h
  simp only [Bool.and_eq_true, decide_eq_true_eq] at h
  obtain ⟨h1, h2⟩ := loc_of c h.2
  exact pg_name c.nd (by rw [c.hN]; exact h.1) h1 h2
def gNs : List Nat → TGs
  | [] => gNil
  | i :: is => gCons (gName i) (gNs is)
theorem tgts_of (c : CxOk T X S) : ∀ {is : List Nat} {es : List Expr}, chkNs S is es = true → PGs X es (gNs is) ∧ (assignEach es X.env).length = is.length ∧ (assignEach es X.env).findIdx? (·.1) = none
  | [], [], _ => ⟨pgs_nil, rfl, rfl⟩
  | i :: is, e :: es, h => by
    simp only [chkNs, Bool.and_eq_true] at h
    obtain ⟨h1, h2⟩ := h
    split at h1
    · obtain ⟨q1, q2, q3⟩ := tgts_of c (is := is) (es := es) h2
      refine ⟨pgs_cons (tgt_of c h1) q1 rfl, ?_, ?_⟩
      · show (assignEach es X.env).length + 1 = is.length + 1
        rw [q2]
      · show List.findIdx? (fun x => x.1) ((false, _) :: assignEach es X.env) = none
        rw [List.findIdx?_cons]
        simp [q3]
    · cases h1
  | [], _ :: _, h => by simp [chkNs] at h
  | _ :: _, [], h => by simp [chkNs] at h
theorem gNs_run : ∀ {is : List Nat} {vs : List V} {σ : L2.St} {H : Hp} {Q : L2.St → Hp → Prop}, is.length = vs.length → Q ((is.zip vs).foldl (fun s p => s.set p.1 (some p.2)) σ) H → gNs is vs σ H Q
  | [], [], _, _, _, _, h => ⟨rfl, h⟩
  | i :: is, v :: vs, σ, H, Q, hl, h => ⟨v, vs, rfl, gNs_run (by simpa using hl) h⟩
  | [], _ :: _, _, _, _, hl, _ => by simp at hl
  | _ :: _, [], _, _, _, hl, _ => by simp at hl
theorem pg_imp {e : Expr} {t t' : TG} (h : PG X e t) (f : ∀ x σ H Q, t' x σ H Q → t x σ H Q) : PG X e t' := ⟨fun pins s σ H x u Q I r q => h.run pins s σ H x u Q I r (f _ _ _ _ q)⟩
theorem sG (c : CxOk T X S) {g : CG} {tg : Expr} (h : chkG S g tg = true) : PG X tg (LG X.K g) := by
  cases g with
  | name i =>
    simp only [chkG] at h
    split at h
    · refine pg_imp (tgt_of c h) fun x σ H Q q => ?_
      obtain ⟨F, G, ρ, d, hK, r, p, q⟩ := q
      exact q _ (by rw [List.length_set]) (fun j hj => List.getElem?_set_ne (fun e => hj (by simp [CG.slots, e]))) (r.put_fz p)
    · cases h
  | tup is =>
    simp only [chkG] at h
    split at h
    · obtain ⟨q1, q2, q3⟩ := tgts_of c h
      refine pg_imp (pg_tup c.good.calm q1 q2 q3) fun x σ H Q q => ?_
      obtain ⟨F, G, ρ, d, hK, r, p, q⟩ := q
      simp only [asgG] at q
      split at q
      · obtain ⟨ρ', e, q⟩ := q
        cases p with
        | tup h1 h2 =>
          have hl := asgN_len e
          refine ⟨_, _, rfl, hK ▸ same_sqT r.sub h1, by rw [h2.length]; exact hl.symm, gNs_run (by rw [h2.length]; exact hl) ?_⟩
          refine q _ (fold_len _ _) (fun j hj => fold_off fun p hp z => ?_) (asgN_rl r h2 e)
          exact hj (z ▸ (List.of_mem_zip (show (p.1, p.2) ∈ is.zip _ from hp)).1)
      · exact q.elim
    · cases h

/-! ### what is walked -/
structure WkD (K : PySem.W.Frag) (J : It) (ds : List D) (G : Hp) : Prop where
  goes : ∀ i H, i < ds.length → Same G H → J.go i H
  stops : ∀ H, Same G H → J.stop ds.length H
  yields : ∀ i H x H', i < ds.length → Same G H → J.yld i H x H' → ∃ d, ds[i]? = some d ∧ ((H' = H ∧ Rp K G x d) ∨ ∃ T vs es, x = .ref T ∧ H T = none ∧ H' = upd H T (.tup vs) ∧ d = .tup es ∧ RpA K G vs es)
def LI (T : Tb) (K : PySem.W.Frag) (c : CI) : TI := fun σ H R => ∃ F G ρ, F.K = K ∧ Rl F G H σ ρ ∧ evI T c ρ fun ds ρ' => ∀ J G' H', Same G G' → Rl F G' H' σ ρ' → WkD K J ds G' → R J H'
theorem wk_list {K : PySem.W.Frag} {a : Addr} {vs : List V} {ds : List D} {G : Hp} (h : G a = some (.lst vs)) (q : RpA K G vs ds) : WkD K (Itl K a) ds G := by
  have w := walk_list (K := K) (a := a) (xs := vs)
  have e := q.length
  refine ⟨fun i H hi s => w.goes i H (by omega) (SqL.of (s _ _ h)), fun H s => by rw [← e]; exact w.stops H (SqL.of (s _ _ h)), fun i H x H' hi s y => ?_⟩
  obtain ⟨e1, e2⟩ := w.yields i H x H' (by omega) (SqL.of (s _ _ h)) y
  obtain ⟨d, h1, h2⟩ := q.get' e2
  exact ⟨d, h1, .inl ⟨e1, h2⟩⟩
theorem wk_tup {K : PySem.W.Frag} {a : Addr} {vs : List V} {ds : List D} {G : Hp} (h : SqT K G a vs) (q : RpA K G vs ds) : WkD K (Itt K a) ds G := by
  have w := walk_tup (K := K) (a := a) (xs := vs)
  have e := q.length
  refine ⟨fun i H hi s => w.goes i H (by omega) (same_sqT s h), fun H s => by rw [← e]; exact w.stops H (same_sqT s h), fun i H x H' hi s y => ?_⟩
  obtain ⟨e1, e2⟩ := w.yields i H x H' (by omega) (same_sqT s h) y
  obtain ⟨d, h1, h2⟩ := q.get' e2
  exact ⟨d, h1, .inl ⟨e1, h2⟩⟩
theorem rangeD_len (lo hi : Int) : (rangeD lo hi).length = (hi - lo).toNat := by
  unfold rangeD
  rw [List.length_map, List.length_range]
theorem wk_range {K : PySem.W.Frag} {lo hi : Int} {G : Hp} : WkD K (Itr lo (hi - lo).toNat) (rangeD lo hi) G := by
  have w := walk_range (lo := lo) (n := (hi - lo).toNat)
  refine ⟨fun i H h s => w.goes i H (by rw [rangeD_len] at h; exact h) trivial, fun H s => by rw [rangeD_len]; exact w.stops H trivial, fun i H x H' h s y => ?_⟩
  rw [rangeD_len] at h
  obtain ⟨e1, e2⟩ := w.yields i H x H' h trivial y
  refine ⟨.int (lo + (i : Nat)), ?_, .inl ⟨e1, by rw [e2]; exact .int _⟩⟩
  unfold rangeD
  rw [List.getElem?_map, List.getElem?_range h]
  rfl
theorem wk_enum {K : PySem.W.Frag} {k : Bool} {a : Addr} {vs : List V} {ds : List D} {G : Hp} (h : ∀ H, Same G H → SqX k K H a vs) (q : RpA K G vs ds) : WkD K (IeX K k a) (enumD ds) G := by
  have e := q.length
  have el : (enumD ds).length = ds.length := by unfold enumD; simp
  refine ⟨fun i H hi s => ?_, fun H s => ⟨vs, h H s, by omega⟩, fun i H x H' hi s y => ?_⟩
  · have h1 : i < vs.length := by omega
    exact ⟨vs, vs[i], h H s, List.getElem?_eq_getElem h1⟩
  · obtain ⟨T, x2, e1, e2, e3, e5⟩ := y
    obtain ⟨d, h1, h2⟩ := q.get' (e5 _ (h H s))
    refine ⟨.tup [.int (i : Nat), d], ?_, .inr ⟨T, [.int (i : Nat), x2], [.int (i : Nat), d], e1, e2, e3, rfl, .cons (.int _) (.cons h2 .nil)⟩⟩
    unfold enumD
    rw [List.getElem?_map, List.getElem?_zipIdx, h1]
    simp
theorem wk_zip {K : PySem.W.Frag} {k l : Bool} {a b : Addr} {vs ws : List V} {ds es : List D} {G : Hp} (h : ∀ H, Same G H → SqX k K H a vs) (h' : ∀ H, Same G H → SqX l K H b ws) (q : RpA K G vs ds) (q' : RpA K G ws es) : WkD K (ItX K k l a b) (zipD ds es) G := by
  have e := q.length
  have e' := q'.length
  have el : (zipD ds es).length = min ds.length es.length := by unfold zipD; simp
  refine ⟨fun i H hi s => ?_, fun H s => ⟨vs, ws, h H s, h' H s, by omega, by omega, by omega⟩, fun i H x H' hi s y => ?_⟩
  · have h1 : i < vs.length := by omega
    have h2 : i < ws.length := by omega
    exact ⟨vs, ws, vs[i], ws[i], h H s, h' H s, List.getElem?_eq_getElem h1, List.getElem?_eq_getElem h2⟩
  · obtain ⟨T, x1, x2, e1, e2, e3, e4, e5⟩ := y
    obtain ⟨d, h1, h2⟩ := q.get' (e4 _ (h H s))
    obtain ⟨d', h3, h4⟩ := q'.get' (e5 _ (h' H s))
    refine ⟨.tup [d, d'], ?_, .inr ⟨T, [x1, x2], [d, d'], e1, e2, e3, rfl, .cons h2 (.cons h4 .nil)⟩⟩
    unfold zipD
    rw [List.getElem?_map, show (ds.zip es)[i]? = some (d, d') from List.getElem?_zip_eq_some.mpr ⟨h1, h3⟩]
    rfl
theorem wk_str {K : PySem.W.Frag} {z : Str} {G : Hp} : WkD K (Its z) (strD z) G := by
  have w := walk_str (z := z)
  have e : (strD z).length = z.cps.size := by unfold strD; simp
  refine ⟨fun i H hi s => w.goes i H (by omega) trivial, fun H s => by rw [e]; exact w.stops H trivial, fun i H x H' hi s y => ?_⟩
  obtain ⟨e1, c, e2, e3⟩ := w.yields i H x H' (by omega) trivial y
  refine ⟨.str ⟨#[c]⟩, ?_, .inl ⟨e1, by rw [e3]; exact .str _⟩⟩
  unfold strD
  rw [List.getElem?_map, Array.getElem?_toList, e2]
  rfl
theorem wk_rangeC {K : PySem.W.Frag} {i c : Int} {n : Nat} {G : Hp} : WkD K (Itc i c n) (rangeC i c n) G := by
  have w := walk_rangeC (lo := i) (c := c) (n := n)
  have e : (rangeC i c n).length = n := by unfold rangeC; simp
  refine ⟨fun k H hi s => w.goes k H (by omega) trivial, fun H s => by rw [e]; exact w.stops H trivial, fun k H x H' hi s y => ?_⟩
  obtain ⟨e1, e2⟩ := w.yields k H x H' (by omega) trivial y
  refine ⟨.int (i + (k : Nat) * c), ?_, .inl ⟨e1, by rw [e2]; exact .int _⟩⟩
  unfold rangeC
  rw [List.getElem?_map, List.getElem?_range (by omega)]
  rfl
/-- a list or a tuple, walked -/
def iSeq (K : PySem.W.Frag) (tl : TE) : TI := fun σ H R => tl σ H fun x H1 => (∃ a xs, x = .ref a ∧ ((SqL K H1 a xs ∧ R (Itl K a) H1) ∨ (SqT K H1 a xs ∧ R (Itt K a) H1))) ∨ ∃ z, x = .str z ∧ R (Its z) H1
theorem pi_seq {tg l : Expr} {tl : TE} (hl : PE X l tl) : PI X tg l (iSeq X.K tl) := by
  constructor
  intro pins s σ H R I h
  refine thn (hl.run pins s σ H _ I h) ?_
  rintro v s1 ⟨x, H1, I1, r1, ⟨a, xs, e, q⟩ | ⟨z, ez, q⟩⟩
  rotate_left
  · subst ez
    obtain ⟨t, rfl⟩ := r1
    cases ha : z.cps.all (· < 128)
    · exact wpAny_pyIter_wide ha (pi_one (tk := s1.toks) I1 _ (turn_str _ z t "str_iterator" (.inr rfl)) ⟨_, Heap.get?_push_size _ rfl, rfl, rfl⟩ q)
    · exact wpAny_pyIter_ascii ha (pi_one (tk := s1.toks) I1 _ (turn_str _ z t "str_ascii_iterator" (.inl rfl)) ⟨_, Heap.get?_push_size _ rfl, rfl, rfl⟩ q)
  subst e
  cases r1
  have fp : ∀ b ∈ [s1.heap.objs.size], FpOk X pins H1 b := fun b hb => by
    rw [List.mem_singleton] at hb
    subst hb
    exact I1.fpOk (Nat.le_refl _) I1.fresh
  rcases q with ⟨q1, q2⟩ | ⟨q1, q2⟩
  · obtain ⟨its, rv, p, hz⟩ := I1.list q1
    refine wpAny_pyIter_list p.isList ⟨_, [_], _, _, H1, rfl, I1.kept (t' := s1.toks) ?_, turn_list a _, ?_, fp, q2⟩
    · intro b o e
      exact Heap.get?_push_of_some _ e
    · exact ⟨_, Heap.get?_push_size _ rfl, rfl, rfl⟩
  · obtain ⟨its, rv, p, hz⟩ := I1.tuple q1
    refine wpAny_pyIter_tuple (show s1.heap.IsTuple a _ from p) ⟨_, [_], _, _, H1, rfl, I1.kept (t' := s1.toks) ?_, turn_tuple a _, ?_, fp, q2⟩
    · intro b o e
      exact Heap.get?_push_of_some _ e
    · exact ⟨_, Heap.get?_push_size _ rfl, rfl, rfl⟩
end
end DI

set_option Elab.async false
set_option linter.all false
set_option autoImplicit false
set_option maxRecDepth 100000
set_option maxHeartbeats 1000000
/-! DI3d: what is asked over data gives what the hand layer's readings ask: expressions. -/
namespace DI
open PySem PySem.Spec PyProof.Rows L2
section
variable {T : Tb} {K : PySem.W.Frag} {σ : L2.St} {H : Hp}
theorem i_var {i : Nat} {Q : VK} (h : LE T K (.var i) σ H Q) : tVar i σ H Q := by
  obtain ⟨F, G, ρ, hK, r, ev⟩ := h
  subst hK
  simp only [evE] at ev
  split at ev
  · rename_i d e
    obtain ⟨v, h1, h2⟩ := r.fz i d e
    exact ⟨v, h1, ev v G H (Same.refl G) r h2⟩
  · rename_i d e
    obtain ⟨a, h1, h2⟩ := r.ow i d e
    exact ⟨.ref a, h1, ev _ G H (Same.refl G) r ⟨⟨d, e⟩, h1⟩⟩
  · exact ev.elim
theorem i_con {d : D} {v : V} {Q : VK} (hv : ∀ G, Rp K G v d) (h : LE T K (.con d) σ H Q) : tC v σ H Q := by
  obtain ⟨F, G, ρ, hK, r, ev⟩ := h
  subst hK
  exact ev v G H (Same.refl G) r (hv G)
theorem i_glo {k : Nat} {v : V} {Q : VK} (hv : ∀ G, Rp K G v (T.gl k)) (h : LE T K (.glo k) σ H Q) : tC v σ H Q := by
  obtain ⟨F, G, ρ, hK, r, ev⟩ := h
  subst hK
  exact ev v G H (Same.refl G) r (hv G)
theorem i_op2 (tm : T.Mono) {o : O2} {a b : CE} {Q : VK} (h : LE T K (.op2 o a b) σ H Q) : tOp (rd2 T.W o K) (LE T K a) (LE T K b) σ H Q := by
  obtain ⟨F, G, ρ, hK, r, ev⟩ := h
  subst hK
  simp only [evE] at ev
  refine ⟨F, G, ρ, rfl, r, evE_mono tm a (fun r1 ρ1 ev v1 G1 H1 g1 rl1 rr1 => ?_) ev⟩
  obtain ⟨G1', g1', rl1', so1⟩ := opnd rl1 rr1
  refine ⟨F, G1', ρ1, rfl, rl1', evE_mono tm b (fun r2 ρ2 ev v2 G2 H2 g2 rl2 rr2 => ?_) ev⟩
  obtain ⟨G2', g2', rl2', so2⟩ := opnd rl2 rr2
  obtain ⟨d1, ev, ro1⟩ := (so1.mono (g2.trans g2')).rd rl2' ev
  obtain ⟨d2, ev, ro2⟩ := so2.rd rl2' ev
  exact lift2 rl2' ro1 ro2 ev fun z v G3 H3 p w rr => p v G3 H3 (g1.trans (g1'.trans (g2.trans (g2'.trans w.g)))) (rl2'.grow w) rr
theorem i_cmpT (tm : T.Mono) {o : O2} {a b : CE} {Q : Bool → Hp → Prop} (h : LT T K (.cmp o a b) σ H Q) : tTest (tOp (rd2 T.W o K) (LE T K a) (LE T K b)) σ H Q := by
  obtain ⟨F, G, ρ, hK, r, ev⟩ := h
  subst hK
  simp only [evT] at ev
  refine ⟨F, G, ρ, rfl, r, evE_mono tm a (fun r1 ρ1 ev v1 G1 H1 g1 rl1 rr1 => ?_) ev⟩
  obtain ⟨G1', g1', rl1', so1⟩ := opnd rl1 rr1
  refine ⟨F, G1', ρ1, rfl, rl1', evE_mono tm b (fun r2 ρ2 ev v2 G2 H2 g2 rl2 rr2 => ?_) ev⟩
  obtain ⟨G2', g2', rl2', so2⟩ := opnd rl2 rr2
  obtain ⟨d1, ev, ro1⟩ := (so1.mono (g2.trans g2')).rd rl2' ev
  obtain ⟨d2, ev, ro2⟩ := so2.rd rl2' ev
  refine lift2 rl2' ro1 ro2 ev fun z v G3 H3 p w rr => ?_
  split at p
  · cases rr
    exact ⟨_, rfl, p G3 H3 (g1.trans (g1'.trans (g2.trans (g2'.trans w.g)))) (rl2'.grow w)⟩
  · exact p.elim
theorem i_neg (tm : T.Mono) {a : CE} {Q : VK} (h : LE T K (.op1 .neg a) σ H Q) : tUn (rU fun i => .int (-i)) (LE T K a) σ H Q := by
  obtain ⟨F, G, ρ, hK, r, ev⟩ := h
  subst hK
  simp only [evE] at ev
  refine ⟨F, G, ρ, rfl, r, evE_mono tm a (fun r1 ρ1 ev v1 G1 H1 g1 rl1 rr1 => ?_) ev⟩
  obtain ⟨G1', g1', rl1', so1⟩ := opnd rl1 rr1
  obtain ⟨d1, ev, ro1⟩ := so1.rd rl1' ev
  simp only [sem1] at ev
  split at ev
  · exact ⟨_, ro1.int, ev _ G1' H1 (g1.trans g1') rl1' (.int _)⟩
  · exact ev.elim
theorem i_and (tm : T.Mono) {a b : CE} {Q : VK} (h : LE T K (.and a b) σ H Q) : tAndV (LE T K a) (LE T K b) σ H Q := by
  obtain ⟨F, G, ρ, hK, r, ev⟩ := h
  subst hK
  simp only [evE] at ev
  refine ⟨F, G, ρ, rfl, r, evE_mono tm a (fun r1 ρ1 ev v1 G1 H1 g1 rl1 rr1 => ?_) ev⟩
  split at ev
  · rename_i k
    cases rr1
    refine ⟨k, rfl, ?_⟩
    cases k with
    | true => exact ⟨F, G1, ρ1, rfl, rl1, evE_mono tm b (fun r2 ρ2 ev v2 G2 H2 g2 => ev v2 G2 H2 (g1.trans g2)) ev⟩
    | false => exact ev _ G1 H1 g1 rl1 (.bl _)
  · exact ev.elim
theorem i_or (tm : T.Mono) {a b : CE} {Q : VK} (h : LE T K (.or a b) σ H Q) : tOrV (LE T K a) (LE T K b) σ H Q := by
  obtain ⟨F, G, ρ, hK, r, ev⟩ := h
  subst hK
  simp only [evE] at ev
  refine ⟨F, G, ρ, rfl, r, evE_mono tm a (fun r1 ρ1 ev v1 G1 H1 g1 rl1 rr1 => ?_) ev⟩
  split at ev
  · rename_i k
    cases rr1
    refine ⟨k, rfl, ?_⟩
    cases k with
    | true => exact ev _ G1 H1 g1 rl1 (.bl _)
    | false => exact ⟨F, G1, ρ1, rfl, rl1, evE_mono tm b (fun r2 ρ2 ev v2 G2 H2 g2 => ev v2 G2 H2 (g1.trans g2)) ev⟩
  · exact ev.elim
theorem i_not (tm : T.Mono) {a : CE} {Q : VK} (h : LE T K (.not a) σ H Q) : tNotV (LE T K a) σ H Q := by
  obtain ⟨F, G, ρ, hK, r, ev⟩ := h
  subst hK
  simp only [evE] at ev
  refine ⟨F, G, ρ, rfl, r, evE_mono tm a (fun r1 ρ1 ev v1 G1 H1 g1 rl1 rr1 => ?_) ev⟩
  split at ev
  · rename_i k
    cases rr1
    exact ⟨k, rfl, ev _ G1 H1 g1 rl1 (.bl _)⟩
  · exact ev.elim
theorem i_ifx (tm : T.Mono) {c : CT} {a b : CE} {Q : VK} (h : LE T K (.ifx c a b) σ H Q) : tIf (LT T K c) (LE T K a) (LE T K b) σ H Q := by
  obtain ⟨F, G, ρ, hK, r, ev⟩ := h
  subst hK
  simp only [evE] at ev
  refine ⟨F, G, ρ, rfl, r, evT_mono tm c (fun k ρ1 ev G1 H1 g1 rl1 => ?_) ev⟩
  cases k with
  | true => exact ⟨F, G1, ρ1, rfl, rl1, evE_mono tm a (fun r2 ρ2 ev v2 G2 H2 g2 => ev v2 G2 H2 (g1.trans g2)) ev⟩
  | false => exact ⟨F, G1, ρ1, rfl, rl1, evE_mono tm b (fun r2 ρ2 ev v2 G2 H2 g2 => ev v2 G2 H2 (g1.trans g2)) ev⟩
theorem i_nil {Q : List V → Hp → Prop} (h : LA T K .nil σ H Q) : tNil σ H Q := by
  obtain ⟨F, G, ρ, hK, r, ev⟩ := h
  exact ev [] G H (Same.refl G) r trivial
theorem i_cons (tm : T.Mono) {c : CE} {cs : CA} {Q : List V → Hp → Prop} (h : LA T K (.cons c cs) σ H Q) : tCons (LE T K c) (LA T K cs) σ H Q := by
  obtain ⟨F, G, ρ, hK, r, ev⟩ := h
  subst hK
  simp only [evA] at ev
  refine ⟨F, G, ρ, rfl, r, evE_mono tm c (fun r1 ρ1 ev v1 G1 H1 g1 rl1 rr1 => ?_) ev⟩
  obtain ⟨G1', g1', rl1', so1⟩ := opnd rl1 rr1
  exact ⟨F, G1', ρ1, rfl, rl1', evA_mono tm cs (fun rs ρ2 ev vs G2 H2 g2 rl2 so2 => ev _ G2 H2 (g1.trans (g1'.trans g2)) rl2 ⟨(so1.mono g2).opd, so2⟩) ev⟩
theorem i_nilK {Q : List V → Hp → Prop} (h : LK T K .nil σ H Q) : tNil σ H Q := by
  obtain ⟨F, G, ρ, hK, r, ev⟩ := h
  exact ev [] G H (Same.refl G) r .nil
theorem i_consK (tm : T.Mono) {c : CE} {cs : CA} {Q : List V → Hp → Prop} (h : LK T K (.cons c cs) σ H Q) : tCons (LE T K c) (LK T K cs) σ H Q := by
  obtain ⟨F, G, ρ, hK, r, ev⟩ := h
  subst hK
  simp only [evK] at ev
  refine ⟨F, G, ρ, rfl, r, evE_mono tm c (fun r1 ρ1 ev v1 G1 H1 g1 rl1 rr1 => ?_) ev⟩
  obtain ⟨G1', d, ρ1', g1', rl1', p, ev⟩ := keepR rl1 rr1 ev
  exact ⟨F, G1', ρ1', rfl, rl1', evK_mono tm cs (fun rs ρ2 ev vs G2 H2 g2 rl2 so2 => ev _ G2 H2 (g1.trans (g1'.trans g2)) rl2 (.cons (p.mono g2) so2)) ev⟩
/-- a tuple or a list as what it is -/
theorem rp_seqX {K : PySem.W.Frag} {G : Hp} {v : V} {d : D} {xs : List D} (p : Rp K G v d) (h : seqOf d = some xs) : ∃ k a vs, v = .ref a ∧ (∀ H, Same G H → SqX k K H a vs) ∧ RpA K G vs xs := by
  cases d <;> simp only [seqOf] at h <;> first | (cases h; done) | skip
  · cases h
    cases p with
    | lst h1 h2 => exact ⟨false, _, _, rfl, fun H s => SqL.of (s _ _ h1), h2⟩
  · cases h
    cases p with
    | tup h1 h2 => exact ⟨true, _, _, rfl, fun H s => same_sqT s h1, h2⟩
theorem rpA_app {K : PySem.W.Frag} {G : Hp} : ∀ {us vs : List V} {xs ys : List D}, RpA K G us xs → RpA K G vs ys → RpA K G (us ++ vs) (xs ++ ys)
  | _, _, _, _, .nil, q => q
  | _, _, _, _, .cons a b, q => .cons a (rpA_app b q)
theorem i_starK (tm : T.Mono) {c : CE} {cs : CA} {Q : List V → Hp → Prop} (h : LK T K (.star c cs) σ H Q) : StX.tStar K (LE T K c) (LK T K cs) σ H Q := by
  obtain ⟨F, G, ρ, hK, r, ev⟩ := h
  subst hK
  simp only [evK] at ev
  refine ⟨F, G, ρ, rfl, r, evE_mono tm c (fun r1 ρ1 ev v1 G1 H1 g1 rl1 rr1 => ?_) ev⟩
  obtain ⟨G1', d, ρ1', g1', rl1', p, xs, e, ev⟩ := keepR rl1 rr1 ev
  obtain ⟨k, a, us, e1, s1, q1⟩ := rp_seqX p e
  have q1' : ∀ {G2 : Hp}, Same G1' G2 → RpA F.K G2 us xs := fun g => q1.mono g
  refine ⟨a, us, e1, ?_, F, G1', ρ1', rfl, rl1', evK_mono tm cs (fun rs ρ2 ev vs G2 H2 g2 rl2 so2 => ev _ G2 H2 (g1.trans (g1'.trans g2)) rl2 (rpA_app (q1' g2) so2)) ev⟩
  have z := s1 _ rl1'.sub
  cases k
  · exact .inr z
  · exact .inl z
theorem i_lst (tm : T.Mono) {cs : CA} {Q : VK} (h : LE T K (.lst cs) σ H Q) : tLst (LK T K cs) σ H Q := by
  obtain ⟨F, G, ρ, hK, r, ev⟩ := h
  subst hK
  simp only [evE] at ev
  refine ⟨F, G, ρ, rfl, r, evK_mono tm cs (fun ds ρ1 ev vs G1 H1 g1 rl1 p => ?_) ev⟩
  refine ⟨by rw [p.length]; exact ev.1, fun l hl => ev.2 _ G1 _ g1 (rl1.grow (Gw.new rl1.sub hl)) ⟨l, rfl, rl1.nw hl ⟨vs, upd_same, p⟩⟩⟩
theorem i_tup (tm : T.Mono) {cs : CA} {Q : VK} (h : LE T K (.tup cs) σ H Q) : tTup (LK T K cs) σ H Q := by
  obtain ⟨F, G, ρ, hK, r, ev⟩ := h
  subst hK
  simp only [evE] at ev
  refine ⟨F, G, ρ, rfl, r, evK_mono tm cs (fun ds ρ1 ev vs G1 H1 g1 rl1 p => ?_) ev⟩
  refine ⟨by rw [p.length]; exact ev.1, fun l hl => ?_⟩
  have w := Gw.newF (o := .tup vs) rl1.sub hl
  exact ev.2 _ _ _ (g1.trans w.g) (rl1.grow w) (.tup (SqT.of upd_same) (p.mono w.g))
theorem i_none {Q : Option Int → Hp → Prop} (h : LO T K .none σ H Q) : tNoPart σ H Q := by
  obtain ⟨F, G, ρ, hK, r, ev⟩ := h
  exact ev G H (Same.refl G) r
theorem i_some (tm : T.Mono) {c : CE} {Q : Option Int → Hp → Prop} (h : LO T K (.some c) σ H Q) : tPart (LE T K c) σ H Q := by
  obtain ⟨F, G, ρ, hK, r, ev⟩ := h
  subst hK
  simp only [evO] at ev
  refine ⟨F, G, ρ, rfl, r, evE_mono tm c (fun r1 ρ1 ev v1 G1 H1 g1 rl1 rr1 => ?_) ev⟩
  split at ev
  · cases rr1
    exact ⟨_, rfl, ev G1 H1 g1 rl1⟩
  · exact ev.elim
theorem cut_rel {G : Hp} {vs : List V} {ds : List D} (h : RpA K G vs ds) (l u : Option Int) : RpA K G (cutV vs l u) (cutD ds l u) := by
  unfold cutV cutD
  rw [h.length]
  exact (h.drop _).take _
theorem cut_all {ds : List D} {l u : Option Int} (q : HT.sIx ds.length 0 l = 0 ∧ HT.sIx ds.length ds.length u = ds.length) : cutD ds l u = ds := by
  unfold cutD
  rw [q.1, q.2]
  simp
def rSls (K : PySem.W.Frag) : V → Option Int → Option Int → Hp → VK → Prop := fun x lo hi H Q => rSlL K x lo hi H Q ∨ rSlA K x lo hi H Q ∨ rSlS x lo hi H Q
theorem i_slc (tm : T.Mono) {a : CE} {lo hi : CO} {Q : VK} (h : LE T K (.slc a lo hi) σ H Q) : tSl (rSls K) (LE T K a) (LO T K lo) (LO T K hi) σ H Q := by
  obtain ⟨F, G, ρ, hK, r, ev⟩ := h
  subst hK
  simp only [evE] at ev
  refine ⟨F, G, ρ, rfl, r, evE_mono tm a (fun r1 ρ1 ev v1 G1 H1 g1 rl1 rr1 => ?_) ev⟩
  obtain ⟨G1', g1', rl1', so1⟩ := opnd rl1 rr1
  refine ⟨F, G1', ρ1, rfl, rl1', evO_mono tm lo (fun l ρ2 ev G2 H2 g2 rl2 => ?_) ev⟩
  refine ⟨F, G2, ρ2, rfl, rl2, evO_mono tm hi (fun u ρ3 ev G3 H3 g3 rl3 => ?_) ev⟩
  obtain ⟨d, ev, ro⟩ := (so1.mono (g2.trans g3)).rd rl3 ev
  have gg := g1.trans (g1'.trans (g2.trans g3))
  split at ev
  · obtain ⟨b, vs, rfl, h1, h2⟩ := ro
    exact .inl ⟨b, vs, rfl, SqL.of h1, fun p hp => ev _ G3 _ gg (rl3.grow (Gw.new rl3.sub hp)) ⟨p, rfl, rl3.nw hp ⟨_, upd_same, cut_rel h2 l u⟩⟩⟩
  · obtain ⟨b, vs, rfl, h1, h2, h3⟩ := ro.tup rl3.sub
    refine .inr (.inl ⟨b, vs, rfl, h1, ?_, ?_⟩)
    · intro q
      refine ev _ G3 H3 gg rl3 ?_
      have e : cutD _ l u = _ := cut_all (by rw [h2.length] at q; exact q)
      rw [e]
      exact .tup h3 h2
    · intro q p hp
      have w := Gw.newF (o := .tup (cutV vs l u)) rl3.sub hp
      exact ev _ _ _ (gg.trans w.g) (rl3.grow w) (.tup (SqT.of upd_same) ((cut_rel h2 l u).mono w.g))
  · have ro : Rp F.K G3 v1 (.scr _ _) := ro
    cases ro with
    | scr h1 => exact .inl ⟨_, _, rfl, same_sqL rl3.sub h1, fun p hp => ev _ G3 _ gg (rl3.grow (Gw.new rl3.sub hp)) ⟨p, rfl, rl3.nw hp ⟨_, upd_same, cut_rel (RpA.ints _) l u⟩⟩⟩
  · exact .inr (.inr ⟨_, ro.str, ev.1, ev.2 _ G3 H3 gg rl3 (.str _)⟩)
  · exact ev.elim
def rN (m : N1) : V → List V → Hp → VK → Prop := match m with
  | .split => fun x xs H Q => ∃ a b, x = .str a ∧ xs = [.str b] ∧ (b.length == 0) = false ∧ a.length + 2 ≤ sizeLine ∧ rNewStrs (Txt.split a b) H Q
theorem i_meth (tm : T.Mono) {m : N1} {a e : CE} {Q : VK} (h : LE T K (.meth m a e) σ H Q) : tM1 (rN m) (LE T K a) (LE T K e) σ H Q := by
  obtain ⟨F, G, ρ, hK, r, ev⟩ := h
  subst hK
  simp only [evE] at ev
  refine ⟨F, G, ρ, rfl, r, evE_mono tm a (fun r1 ρ1 ev v1 G1 H1 g1 rl1 rr1 => ?_) ev⟩
  split at ev
  · rename_i x
    cases rr1
    refine ⟨⟨x, rfl⟩, F, G1, ρ1, rfl, rl1, evE_mono tm e (fun r2 ρ2 ev v2 G2 H2 g2 rl2 rr2 => ?_) ev⟩
    obtain ⟨G2', g2', rl2', so2⟩ := opnd rl2 rr2
    obtain ⟨d, ev, ro⟩ := so2.rd rl2' ev
    have gg := g1.trans (g2.trans g2')
    cases m with
    | split =>
      simp only [semN] at ev
      split at ev
      · rename_i a0 b0 e1 e2
        cases e1
        cases e2
        refine ⟨_, _, rfl, by rw [ro.str], ev.1, ev.2.1, fun p hp => ev.2.2 _ G2' _ gg (rl2'.grow (Gw.new rl2'.sub hp)) ⟨p, rfl, rl2'.nw hp ⟨_, upd_same, RpA.strs _⟩⟩⟩
      · exact ev.elim
  · exact ev.elim
theorem i_sset (tm : T.Mono) {w : World} {e : CE} {Q : VK} (h : LE T K (.sset e) σ H Q) : tCB (rSortedSet w) (tCons (tCB (rSetLI w K) (tCons (LE T K e) tNil)) tNil) σ H Q := by
  obtain ⟨F, G, ρ, hK, r, ev⟩ := h
  subst hK
  simp only [evE] at ev
  refine ⟨F, G, ρ, rfl, r, evE_mono tm e (fun r1 ρ1 ev v1 G1 H1 g1 rl1 rr1 => ?_) ev⟩
  obtain ⟨G1', g1', rl1', so1⟩ := opnd rl1 rr1
  obtain ⟨d, ev, ro⟩ := so1.rd rl1' ev
  have gg := g1.trans g1'
  split at ev
  · obtain ⟨ns, rfl, h64, ev⟩ := ev
    obtain ⟨b, vs, rfl, h1, h2⟩ := ro
    have e2 := h2.int_of
    subst e2
    refine ⟨b, ns, rfl, SqL.of h1, h64, fun p c hp hc => ?_⟩
    have w1 := Gw.new (o := SetO w p (fun j => decide (j ∈ ns)) c) rl1'.sub hp
    have rl2 := rl1'.grow w1
    refine ⟨p, _, c, rfl, upd_same, by omega, fun ys q hs hm hl hq => ?_⟩
    refine ev ys hs (fun k => by rw [hm k, decide_eq_true_eq]) _ G1' _ gg (rl2.grow (Gw.new rl2.sub hq)) ⟨q, rfl, rl2.nw hq ⟨_, upd_same, RpA.ints _⟩⟩
  · exact ev.elim
theorem i_dn1 (tm : T.Mono) {k v : CE} {Q : VK} (h : LE T K (.dn1 k v) σ H Q) : tDn1 T.W K (LE T K k) (LE T K v) σ H Q := by
  obtain ⟨F, G, ρ, hK, r, ev⟩ := h
  subst hK
  simp only [evE] at ev
  intro p hp
  have w0 := Gw.new (o := .dK []) r.sub hp
  have r0 := r.grow w0
  have n0 : Nw F G (upd H p (.dK [])) σ ρ p (.dct []) := r.nw hp ⟨[], upd_same, .nil⟩
  have ra := r0.aside n0 upd_same
  refine ⟨F.aside p (.dK []), G, ρ, rfl, ra, evE_mono tm k (fun r1 ρ1 ev v1 G1 H1 g1 rl1 rr1 => ?_) ev⟩
  obtain ⟨G2, d1, ρ2, g2, rl2, p2, ev⟩ := keepR rl1 rr1 ev
  refine ⟨F.aside p (.dK []), G2, ρ2, rfl, rl2, evE_mono tm v (fun r3 ρ3 ev v3 G3 H3 g3 rl3 rr3 => ?_) ev⟩
  obtain ⟨G4, d4, ρ4, g4, rl4, p4, ev⟩ := keepR rl3 rr3 ev
  have hH3 : H3 p = some (.dK []) := (rl4.fr p (.inl rfl)).2.1.trans upd_same
  refine ⟨hH3, ?_⟩
  split at ev
  · obtain ⟨n, h1, h2, ev⟩ := ev
    have p2' : Rp F.K G4 v1 (.tup _) := p2.mono (g3.trans g4)
    have gg := g1.trans (g2.trans (g3.trans g4))
    obtain ⟨rl5, n5⟩ := r0.unaside n0 upd_same gg rl4
    cases p2' with
    | tup q1 q2 =>
      refine ⟨_, _, n, rfl, (Rp.tup q1 q2).mono rl4.sub, h1, h2, fun u ru => ?_⟩
      obtain ⟨rl6, n6⟩ := rl5.mutN n5 (o := DnO T.W p [(n, _, u)]) (d' := .dcn T.W [(n, .tup _, d4)]) ⟨_, upd_same, .cons (Rp.tup q1 q2) h1 h2 ru p4 .nil⟩
      exact ev _ G4 _ gg rl6 ⟨p, rfl, n6⟩
  · exact ev.elim
theorem i_tyc {n : String} {Q : VK} (h : LE T K (.tyc n) σ H Q) : tC (.ty n) σ H Q := by
  obtain ⟨F, G, ρ, hK, r, ev⟩ := h
  subst hK
  exact ev _ G H (Same.refl G) r (.opq _)
theorem i_dk0 {Q : VK} (h : LE T K .dk0 σ H Q) : tDNewK σ H Q := by
  obtain ⟨F, G, ρ, hK, r, ev⟩ := h
  subst hK
  intro p hp
  exact ev _ G _ (Same.refl G) (r.grow (Gw.new r.sub hp)) ⟨p, rfl, r.nw hp ⟨[], upd_same, .nil⟩⟩
theorem i_dk1 (tm : T.Mono) {x : Str} {v : CE} {Q : VK} (h : LE T K (.dk1 x v) σ H Q) : tDisp [(tC (.str x), LE T K v)] σ H Q := by
  obtain ⟨F, G, ρ, hK, r, ev⟩ := h
  subst hK
  simp only [evE] at ev
  intro p hp
  have w0 := Gw.new (o := .dK []) r.sub hp
  have r0 := r.grow w0
  have n0 : Nw F G (upd H p (.dK [])) σ ρ p (.dct []) := r.nw hp ⟨[], upd_same, .nil⟩
  have ra := r0.aside n0 upd_same
  refine ⟨F.aside p (.dK []), G, ρ, rfl, ra, evE_mono tm v (fun r3 ρ3 ev v3 G3 H3 g3 rl3 rr3 => ?_) ev⟩
  obtain ⟨G4, d4, ρ4, g4, rl4, p4, ev⟩ := keepR rl3 rr3 ev
  have hH3 : H3 p = some (.dK []) := (rl4.fr p (.inl rfl)).2.1.trans upd_same
  refine ⟨hH3, [(.inr x, v3)], rfl, by simp, ?_⟩
  have gg := g3.trans g4
  obtain ⟨rl5, n5⟩ := r0.unaside n0 upd_same gg rl4
  obtain ⟨rl6, n6⟩ := rl5.mutN n5 (o := .dK [(.inr x, v3)]) (d' := .dct [(.str x, d4)]) ⟨_, upd_same, RpK.cons (k := .inr x) p4 .nil⟩
  exact ev _ G4 _ gg rl6 ⟨p, rfl, n6⟩
/-- dict displays of text keys -/
def trK (T : Tb) (K : PySem.W.Frag) : List Str → CA → List (TE × TE)
  | x :: xs, .cons e es => (tC (.str x), LE T K e) :: trK T K xs es
  | _, _ => []
theorem putK_new {kvs : List (Key × V)} {k : Key} {v : V} (h : k ∉ kvs.map (·.1)) : putK kvs k v = kvs ++ [(k, v)] := by
  unfold putK
  rw [if_neg]
  intro z
  rw [List.any_eq_true] at z
  obtain ⟨p, hp, e⟩ := z
  have e : p.1 = k := by simpa using e
  exact h (e ▸ List.mem_map_of_mem hp)
theorem mergeK_new : ∀ (more kvs : List (Key × V)), (kvs.map (·.1) ++ more.map (·.1)).Nodup → mergeK kvs more = kvs ++ more
  | [], kvs, _ => by simp [mergeK]
  | (k, v) :: more, kvs, h => by
    show mergeK (putK kvs k v) more = kvs ++ (k, v) :: more
    have hk : k ∉ kvs.map (·.1) := fun z => by
      rw [List.nodup_append] at h
      exact h.2.2 k z k (by simp) rfl
    rw [putK_new hk, mergeK_new more (kvs ++ [(k, v)]) (by simpa using h)]
    simp
theorem paired_tup {H : Hp} : ∀ {ts : List Addr} {ks : List (Key × V)}, Paired (fun (t : Addr) (q : Key × V) => H t = some (.tup [kV q.1, q.2])) ts ks → ∀ t ∈ ts, ∃ vs, H t = some (.tup vs)
  | _, _, .cons h r, t, m => by
    rcases List.mem_cons.mp m with e | m
    · rw [e]; exact ⟨_, h⟩
    · exact paired_tup r t m
/-- new tuples are taken as data -/
theorem putTs (G : Hp) : ∀ (ts : List Addr) (H' : Hp), (∀ t ∈ ts, G t = none) → (∀ t ∈ ts, ∃ vs, H' t = some (.tup vs)) → ∃ G', Same G G' ∧ (∀ b x, G' b = some x → G b = some x ∨ H' b = some x) ∧ (∀ t ∈ ts, ∀ o, H' t = some o → G' t = some o) ∧ (∀ b x, G' b = some x → G b = some x ∨ b ∈ ts) ∧ True := by
  intro ts H' hn hs
  refine ⟨fun b => if b ∈ ts then H' b else G b, fun b x e => ?_, fun b x e => ?_, fun t m o e => ?_, fun b x e => ?_, trivial⟩
  · show (if b ∈ ts then H' b else G b) = some x
    rw [if_neg (fun m => by rw [hn b m] at e; cases e)]
    exact e
  · have e : (if b ∈ ts then H' b else G b) = some x := e
    split at e
    · exact .inr e
    · exact .inl e
  · show (if t ∈ ts then H' t else G t) = some o
    rw [if_pos m]
    exact e
  · have e : (if b ∈ ts then H' b else G b) = some x := e
    split at e
    · rename_i m; exact .inr m
    · exact .inl e
theorem kV_rp {G : Hp} (k : Key) : Rp K G (kV k) (kD k) := by
  cases k with
  | inl i => exact .int i
  | inr x => exact .str x
theorem items_rp' {G H : Hp} : ∀ {es : List (D × D)} {xs : List (Key × D)} {ks : List (Key × V)} {ts : List Addr}, RpK K G ks es → es = xs.map (fun p => (kD p.1, p.2)) → (∀ t ∈ ts, ∀ o, H t = some o → G t = some o) → Paired (fun (t : Addr) (q : Key × V) => H t = some (.tup [kV q.1, q.2])) ts ks → RpA K G (ts.map V.ref) (xs.map fun p => .tup [kD p.1, p.2])
  | _, [], _, _, .nil, _, _, .nil => .nil
  | _, [], _, _, .cons _ _, e, _, _ => by cases e
  | _, _ :: _, _, _, .nil, e, _, _ => by cases e
  | _, (k, d) :: xs, _, _, .cons (k := k0) h r, e, g, .cons e1 q => by
    rw [List.map_cons] at e
    injection e with e2 e3
    injection e2 with e4 e5
    subst e5
    have ih := items_rp' r e3 (fun t m o z => g t (List.mem_cons_of_mem _ m) o z) q
    have hk := kV_rp (K := K) (G := G) k0
    rw [e4] at hk
    exact .cons (.tup (SqT.of (g _ List.mem_cons_self _ e1)) (.cons hk (.cons h .nil))) ih
theorem items_rp {G H : Hp} {xs : List (Key × D)} {ks : List (Key × V)} {ts : List Addr} (h : RpK K G ks (xs.map fun p => (kD p.1, p.2))) (g : ∀ t ∈ ts, ∀ o, H t = some o → G t = some o) (q : Paired (fun (t : Addr) (q : Key × V) => H t = some (.tup [kV q.1, q.2])) ts ks) : RpA K G (ts.map V.ref) (xs.map fun p => .tup [kD p.1, p.2]) := items_rp' h rfl g q
theorem pairs_of {F : Fr} (tm : T.Mono) : ∀ (xs : List Str) (es : CA) {G H : Hp} {ρ : Sta} {P : List D → Sta → Prop} {Q : List (V × V) → Hp → Prop}, fitsK xs es = true → Rl F G H σ ρ → evK T es ρ P →
    (∀ ds ρ' vs G' H', P ds ρ' → Same G G' → Rl F G' H' σ ρ' → RpA F.K G' vs ds → Q ((xs.zip vs).map fun p => (.str p.1, p.2)) H') → tPairs (trK T F.K xs es) σ H Q
  | [], .nil, G, H, ρ, P, Q, _, r, ev, f => f [] ρ [] G H ev (Same.refl G) r .nil
  | x :: xs, .nil, G, H, ρ, P, Q, h, r, ev, f => by cases h
  | [], .cons e es, G, H, ρ, P, Q, h, r, ev, f => by cases h
  | [], .star e es, G, H, ρ, P, Q, h, r, ev, f => by cases h
  | x :: xs, .star e es, G, H, ρ, P, Q, h, r, ev, f => by cases h
  | x :: xs, .cons e es, G, H, ρ, P, Q, h, r, ev, f => by
    simp only [evK] at ev
    show tC (.str x) σ H fun x' H1 => LE T F.K e σ H1 fun y H2 => tPairs (trK T F.K xs es) σ H2 fun ps H3 => Q ((x', y) :: ps) H3
    refine ⟨F, G, ρ, rfl, r, evE_mono tm e (fun r1 ρ1 ev v1 G1 H1 g1 rl1 rr1 => ?_) ev⟩
    obtain ⟨G2, d2, ρ2, g2, rl2, p2, ev⟩ := keepR rl1 rr1 ev
    refine pairs_of tm xs es (P := fun ds ρ3 => P (d2 :: ds) ρ3) h rl2 ev fun ds ρ' vs G' H' h g r' ra => ?_
    exact f (d2 :: ds) ρ' (v1 :: vs) G' H' h (g1.trans (g2.trans g)) r' (.cons (p2.mono g) ra)
theorem zipK_keys : ∀ (xs : List Str) (vs : List V), xs.length = vs.length → ((xs.zip vs).map fun p => ((.inr p.1 : Key), p.2)).map (·.1) = xs.map Sum.inr
  | [], _, _ => rfl
  | x :: xs, [], h => by cases h
  | x :: xs, v :: vs, h => by
    have ih := zipK_keys xs vs (by simpa using h)
    simpa using ih
theorem zipK_rp {G : Hp} : ∀ (xs : List Str) {vs : List V} {ds : List D}, RpA K G vs ds → RpK K G ((xs.zip vs).map fun p => ((.inr p.1 : Key), p.2)) ((xs.zip ds).map fun p => (.str p.1, p.2))
  | [], _, _, _ => .nil
  | x :: xs, _, _, .nil => .nil
  | x :: xs, _, _, .cons h r => .cons (k := .inr x) h (zipK_rp xs r)
theorem i_dks (tm : T.Mono) {fz : Bool} {xs : List Str} {es : CA} {Q : VK} (hx : xs.length ≤ 15) (hf : fitsK xs es = true) (h : LE T K (.dks fz xs es) σ H Q) : tDisp (trK T K xs es) σ H Q := by
  obtain ⟨F, G, ρ, hK, r, ev⟩ := h
  subst hK
  simp only [evE] at ev
  intro p hp
  have w0 := Gw.new (o := .dK []) r.sub hp
  have r0 := r.grow w0
  have n0 : Nw F G (upd H p (.dK [])) σ ρ p (.dct []) := r.nw hp ⟨[], upd_same, .nil⟩
  have ra := r0.aside n0 upd_same
  refine pairs_of (F := F.aside p (.dK [])) tm xs es hf ra ev fun ds ρ4 vs G4 H3 ev gg rl4 rv => ?_
  obtain ⟨hlen, hnd, ev⟩ := ev
  have hlv : xs.length = vs.length := by rw [rv.length]; exact hlen
  have hH3 : H3 p = some (.dK []) := (rl4.fr p (.inl rfl)).2.1.trans upd_same
  refine ⟨hH3, (xs.zip vs).map (fun p => ((.inr p.1 : Key), p.2)), ?_, ?_, ?_⟩
  · rw [List.map_map]
    rfl
  · rw [List.length_map, List.length_zip]
    omega
  have hm : mergeK [] ((xs.zip vs).map (fun p => ((.inr p.1 : Key), p.2))) = (xs.zip vs).map (fun p => ((.inr p.1 : Key), p.2)) := by
    rw [mergeK_new _ [] (by
      rw [List.map_nil, List.nil_append, zipK_keys xs vs hlv]
      exact List.Pairwise.map _ (fun a b h z => h (by injection z)) hnd)]
    rfl
  rw [hm]
  obtain ⟨rl5, n5⟩ := r0.unaside n0 upd_same gg rl4
  have rk := zipK_rp (K := F.K) xs rv
  obtain ⟨rl6, n6⟩ := rl5.mutN n5 (o := .dK ((xs.zip vs).map (fun p => ((.inr p.1 : Key), p.2)))) (d' := .dct ((xs.zip ds).map fun p => (.str p.1, p.2))) ⟨_, upd_same, rk⟩
  cases fz with
  | false => exact ev _ G4 _ gg rl6 ⟨p, rfl, n6⟩
  | true =>
    obtain ⟨G7, g7, rl7, p7⟩ := rl6.keepN n6
    have q : Rp F.K G7 (.ref p) (.dci p ((xs.zip ds).map fun p => (.str p.1, p.2))) := by
      cases p7 with
      | dct h1 h2 => exact .dci h1 h2
    exact ev p _ G7 _ (gg.trans g7) rl7 q
theorem i_dki0 {Q : VK} (h : LE T K (.dks true [] .nil) σ H Q) : tDNewK σ H Q := by
  obtain ⟨F, G, ρ, hK, r, ev⟩ := h
  subst hK
  simp only [evE, evK] at ev
  intro p hp
  have w := Gw.newF (o := .dK []) r.sub hp
  exact ev.2.2 p _ (upd G p (.dK [])) _ (same_new (r.gnone hp)) (r.grow w) (.dci (.inl upd_same) .nil)
theorem i_items {i : Nat} {Q : VK} (h : LE T K (.items i) σ H Q) : LiI.tListItems (tVar i) σ H Q := by
  obtain ⟨F, G, ρ, hK, r, ev⟩ := h
  subst hK
  simp only [evE] at ev
  split at ev
  · rename_i kvs hd
    obtain ⟨xs, rfl, ev⟩ := ev
    obtain ⟨a, h1, h2, h3, ⟨ks, h4, h5⟩⟩ := r.ow i _ hd
    refine ⟨.ref a, h1, a, ks, rfl, h4, fun H' p ts hk hp ht hpt hl pr => ?_⟩
    obtain ⟨G', g1, g2, g3, g4, g5⟩ := putTs G ts H' (fun t m => r.gnone (ht t m)) (fun t m => paired_tup pr t m)
    have w : Gw G H G' H' := ⟨g1, hk, fun b x e => by
      rcases g2 b x e with q | q
      · exact hk _ _ (r.sub _ _ q)
      · exact q, fun b hb hg => by
      cases q : G' b with
      | none => rfl
      | some x =>
        rcases g4 b x q with z | z
        · rw [hg] at z; cases z
        · exact absurd (ht b z) hb, fun b ps e => by
      rcases g2 b _ e with q | q
      · exact q
      · rcases g4 b _ e with z | z
        · exact z
        · obtain ⟨x, y⟩ := paired_tup pr b z
          rw [y] at q
          cases q⟩
    have rl := r.grow w
    refine ev _ G' H' g1 rl ⟨p, rfl, r.pnone hp, ?_, ⟨_, hl, items_rp (h5.mono g1) (fun t m o e => g3 t m o e) pr⟩, fun j e q z => ?_, fun b e z => ?_⟩
    · cases q : G' p with
      | none => rfl
      | some x =>
        rcases g4 p x q with z | z
        · rw [r.gnone hp] at z; cases z
        · exact absurd z hpt
    · obtain ⟨b, q1, _, _, q4⟩ := r.ow j e q
      rw [q1] at z
      cases z
      exact q4.some hp
    · have q := (r.bg b e).some
      rw [z] at q
      exact q hp
  · exact ev.elim
theorem i_upper (tm : T.Mono) {a : CE} {Q : VK} (h : LE T K (.upper a) σ H Q) : tM0 (fun x xs H Q => ∃ a, x = .str a ∧ xs = [] ∧ a.length ≤ 5592405 ∧ Q (.str (Txt.upper a)) H) (LE T K a) σ H Q := by
  obtain ⟨F, G, ρ, hK, r, ev⟩ := h
  subst hK
  simp only [evE] at ev
  refine ⟨F, G, ρ, rfl, r, evE_mono tm a (fun r1 ρ1 ev v1 G1 H1 g1 rl1 rr1 => ?_) ev⟩
  obtain ⟨G1', g1', rl1', so1⟩ := opnd rl1 rr1
  obtain ⟨d, ev, ro⟩ := so1.rd rl1' ev
  split at ev
  · exact ⟨⟨_, ro.str⟩, _, ro.str, rfl, ev.1, ev.2 _ G1' _ (g1.trans g1') rl1' (.str _)⟩
  · exact ev.elim
theorem i_cnt (tm : T.Mono) {a e : CE} {Q : VK} (h : LE T K (.cnt a e) σ H Q) : tBM K "list" (rCnt K) (LE T K a) (tCons (LE T K e) tNil) σ H Q := by
  obtain ⟨F, G, ρ, hK, r, ev⟩ := h
  subst hK
  simp only [evE] at ev
  refine ⟨F, G, ρ, rfl, r, evE_mono tm a (fun r1 ρ1 ev v1 G1 H1 g1 rl1 rr1 => ?_) ev⟩
  obtain ⟨ev0, ev⟩ := ev
  obtain ⟨G1', g1', rl1', so1⟩ := opnd rl1 rr1
  obtain ⟨d0, ⟨xs0, rfl⟩, ro0⟩ := so1.rd rl1' ev0
  obtain ⟨p0, ws0, rfl, h0, _⟩ := ro0
  refine ⟨.inl ⟨rfl, ws0, SqL.of h0⟩, ?_⟩
  refine ⟨F, G1', ρ1, rfl, rl1', evE_mono tm e (fun r2 ρ2 ev v2 G2 H2 g2 rl2 rr2 => ?_) ev⟩
  obtain ⟨G2', g2', rl2', so2⟩ := opnd rl2 rr2
  obtain ⟨d1, ev1, ro1⟩ := ((so1.opd).mono (g2.trans g2')).rd rl2' ev
  obtain ⟨d2, ev2, ro2⟩ := so2.rd rl2' ev1
  clear ev ev1
  split at ev2
  · obtain ⟨ss, hss, ev⟩ := ev2
    subst hss
    obtain ⟨p1, ws, e, h1, h2⟩ := ro1
    have e2 := h2.str_of
    subst e2
    exact ⟨p1, ss, _, e, by rw [ro2.str], SqL.of h1, ev _ G2' _ (g1.trans (g1'.trans (g2.trans g2'))) rl2' (.int _)⟩
  · exact ev2.elim
theorem i_join (tm : T.Mono) {a e : CE} {Q : VK} (h : LE T K (.join a e) σ H Q) : tM1 (fun x xs H Q => ∃ a p, ∃ ys : List Str, x = .str a ∧ xs = [.ref p] ∧ (SqL K H p (ys.map V.str) ∨ SqT K H p (ys.map V.str)) ∧
      (ys.map (·.length)).sum + ys.length * a.length ≤ 16777216 ∧ Q (.str (Txt.join a ys)) H) (LE T K a) (LE T K e) σ H Q := by
  obtain ⟨F, G, ρ, hK, r, ev⟩ := h
  subst hK
  simp only [evE] at ev
  refine ⟨F, G, ρ, rfl, r, evE_mono tm a (fun r1 ρ1 ev v1 G1 H1 g1 rl1 rr1 => ?_) ev⟩
  split at ev
  · rename_i x
    cases rr1
    refine ⟨⟨x, rfl⟩, F, G1, ρ1, rfl, rl1, evE_mono tm e (fun r2 ρ2 ev v2 G2 H2 g2 rl2 rr2 => ?_) ev⟩
    obtain ⟨G2', g2', rl2', so2⟩ := opnd rl2 rr2
    obtain ⟨d, ev, ro⟩ := so2.rd rl2' ev
    have gg := g1.trans (g2.trans g2')
    split at ev
    · obtain ⟨ss, rfl, h2, ev⟩ := ev
      obtain ⟨p1, ws, rfl, h3, h4⟩ := ro
      have e2 := h4.str_of
      subst e2
      exact ⟨_, p1, ss, rfl, rfl, .inl (SqL.of h3), h2, ev _ G2' _ gg rl2' (.str _)⟩
    · exact ev.elim
  · exact ev.elim
theorem valV_none {G : Hp} {kvs : List (Key × V)} {ds : List (D × D)} {k : Key} (r : RpK K G kvs ds) (h : valD ds k = none) : valV kvs k = none := by
  induction kvs generalizing ds with
  | nil => rfl
  | cons p kvs ih =>
    cases r with
    | cons r1 r2 =>
      rename_i k0 v0 d0 ds0
      rw [valD] at h
      split at h
      · cases h
      · rename_i hne
        have c : k0 ≠ k := fun z => hne (by rw [z]; exact keyD_kD _)
        rw [valV, List.find?_cons_of_neg (by simpa using c)]
        exact ih r2 h
theorem dget_rel {G : Hp} {kvs : List (Key × V)} {ds : List (D × D)} {k : Key} {v0 : V} {d0 : D} (r : RpK K G kvs ds) (h0 : Rp K G v0 d0) : Rp K G ((valV kvs k).getD v0) ((valD ds k).getD d0) := by
  cases e : valD ds k with
  | none => rw [valV_none r e]; exact h0
  | some d =>
    obtain ⟨v, e1, e2⟩ := r.val e
    rw [e1]
    exact e2
theorem i_dget (tm : T.Mono) {a e : CE} {Q : VK} (h : LE T K (.dget a e) σ H Q) : tDGet1 (LE T K a) (LE T K e) σ H Q := by
  obtain ⟨F, G, ρ, hK, r, ev⟩ := h
  subst hK
  simp only [evE] at ev
  refine ⟨F, G, ρ, rfl, r, evE_mono tm a (fun r1 ρ1 ev v1 G1 H1 g1 rl1 rr1 => ?_) ev⟩
  obtain ⟨ev0, ev⟩ := ev
  obtain ⟨G1', g1', rl1', so1⟩ := opnd rl1 rr1
  obtain ⟨d0, ⟨xs0, rfl⟩, ro0⟩ := so1.rd rl1' ev0
  obtain ⟨p0, ws0, rfl, h0, _⟩ := ro0
  refine ⟨p0, rfl, .inl ⟨ws0, h0⟩, ?_⟩
  refine ⟨F, G1', ρ1, rfl, rl1', evE_mono tm e (fun r2 ρ2 ev v2 G2 H2 g2 rl2 rr2 => ?_) ev⟩
  obtain ⟨G2', g2', rl2', so2⟩ := opnd rl2 rr2
  obtain ⟨d1, ev1, ro1⟩ := ((so1.opd).mono (g2.trans g2')).rd rl2' ev
  obtain ⟨d2, ev2, ro2⟩ := so2.rd rl2' ev1
  clear ev ev1
  split at ev2
  · rename_i z
    obtain ⟨p1, ws, e1, h1, h2⟩ := ro1
    cases e1
    exact ⟨_, .inl ⟨ws, .inr z, h1, ro2.str, rfl⟩, ev2 _ G2' _ (g1.trans (g1'.trans (g2.trans g2'))) rl2' (dget_rel h2 .non)⟩
  · exact ev2.elim
theorem i_dgetd (tm : T.Mono) {a e f : CE} {Q : VK} (h : LE T K (.dgetd a e f) σ H Q) : tDGet2 (LE T K a) (LE T K e) (LE T K f) σ H Q := by
  obtain ⟨F, G, ρ, hK, r, ev⟩ := h
  subst hK
  simp only [evE] at ev
  refine ⟨F, G, ρ, rfl, r, evE_mono tm a (fun r1 ρ1 ev v1 G1 H1 g1 rl1 rr1 => ?_) ev⟩
  obtain ⟨ev0, ev⟩ := ev
  obtain ⟨G1', g1', rl1', so1⟩ := opnd rl1 rr1
  obtain ⟨d0, ⟨xs0, rfl⟩, ro0⟩ := so1.rd rl1' ev0
  obtain ⟨p0, ws0, rfl, h0, _⟩ := ro0
  refine ⟨p0, rfl, .inl ⟨ws0, h0⟩, ?_⟩
  refine ⟨F, G1', ρ1, rfl, rl1', evE_mono tm e (fun r2 ρ2 ev v2 G2 H2 g2 rl2 rr2 => ?_) ev⟩
  split at ev
  · rename_i z
    cases rr2
    refine ⟨F, G2, ρ2, rfl, rl2, evE_mono tm f (fun r3 ρ3 ev v3 G3 H3 g3 rl3 rr3 => ?_) ev⟩
    obtain ⟨G4, d4, ρ4, g4, rl4, p4, ev⟩ := keepR rl3 rr3 ev
    obtain ⟨d1, ev1, ro1⟩ := ((so1.opd).mono (g2.trans (g3.trans g4))).rd rl4 ev
    split at ev1
    · obtain ⟨p1, ws, e1, h1, h2⟩ := ro1
      cases e1
      exact ⟨_, .inl ⟨ws, .inr z, h1, rfl, rfl⟩, ev1 _ G4 _ (g1.trans (g1'.trans (g2.trans (g3.trans g4)))) rl4 (dget_rel h2 p4)⟩
    · exact ev1.elim
  · exact ev.elim
theorem i_ginT (tm : T.Mono) {neg : Bool} {k : Nat} {d : Addr} {e : CE} {Q : Bool → Hp → Prop} (h : LT T K (.gin neg k e) σ H Q) : tTest (tOp (rGin neg d (T.gd k)) (LE T K e) (tC (.ref d))) σ H Q := by
  obtain ⟨F, G, ρ, hK, r, ev⟩ := h
  subst hK
  simp only [evT] at ev
  refine ⟨F, G, ρ, rfl, r, evE_mono tm e (fun r1 ρ1 ev v1 G1 H1 g1 rl1 rr1 => ?_) ev⟩
  split at ev
  · rename_i x
    cases rr1
    exact ⟨rfl, .inl ⟨x, rfl, _, rfl, ev G1 H1 g1 rl1⟩⟩
  · cases rr1
    exact ⟨rfl, .inr ⟨rfl, _, rfl, ev G1 H1 g1 rl1⟩⟩
  · exact ev.elim
theorem i_gix (tm : T.Mono) {k : Nat} {d : Addr} {e : CE} {Q : VK} (h : LE T K (.gix k e) σ H Q) : tOp (rGix d (T.gd k)) (tC (.ref d)) (LE T K e) σ H Q := by
  obtain ⟨F, G, ρ, hK, r, ev⟩ := h
  subst hK
  simp only [evE] at ev
  refine ⟨F, G, ρ, rfl, r, evE_mono tm e (fun r1 ρ1 ev v1 G1 H1 g1 rl1 rr1 => ?_) ev⟩
  split at ev
  · rename_i x
    cases rr1
    obtain ⟨y, h1, h2⟩ := ev
    exact ⟨rfl, x, y, rfl, h1, h2 _ G1 H1 g1 rl1 (.str _)⟩
  · exact ev.elim
theorem i_sortn (tm : T.Mono) {e : CE} {Q : VK} (h : LE T K (.sortn e) σ H Q) : tCB (rSortedN T.W K) (tCons (LE T K e) tNil) σ H Q := by
  obtain ⟨F, G, ρ, hK, r, ev⟩ := h
  subst hK
  simp only [evE] at ev
  refine ⟨F, G, ρ, rfl, r, evE_mono tm e (fun r1 ρ1 ev v1 G1 H1 g1 rl1 rr1 => ?_) ev⟩
  obtain ⟨G1', g1', rl1', so1⟩ := opnd rl1 rr1
  obtain ⟨d, ev, ro⟩ := so1.rd rl1' ev
  split at ev
  · obtain ⟨rfl, h1, h2, ev⟩ := ev
    obtain ⟨a, xs, rfl, h3, h4⟩ := ro
    exact ⟨a, xs, _, G1', rfl, h3, rl1'.sub, h4, h1, h2, fun ys p hy hp => ev _ G1' _ (g1.trans g1') (rl1'.grow (Gw.new rl1'.sub hp)) ⟨p, rfl, rl1'.nw hp ⟨ys, upd_same, hy⟩⟩⟩
  · exact ev.elim
theorem i_dn0 {Q : VK} (h : LE T K .dn0 σ H Q) : tDn0 T.W σ H Q := by
  obtain ⟨F, G, ρ, hK, r, ev⟩ := h
  subst hK
  intro p hp
  exact ev _ G _ (Same.refl G) (r.grow (Gw.new r.sub hp)) ⟨p, rfl, r.nw hp ⟨[], upd_same, .nil⟩⟩
theorem RpA.flatA {G G' : Hp} : ∀ {vs : List V} {ds : List D}, RpA K G vs ds → ds.all D.flat = true → RpA K G' vs ds
  | _, _, .nil, _ => .nil
  | _, _, .cons a b, f => by
    rw [List.all_cons, Bool.and_eq_true] at f
    exact .cons (Rp.flat a f.1) (RpA.flatA b f.2)
theorem i_bi (tm : T.Mono) {b : B1} {cs : CA} {Q : VK} (h : LE T K (.bi b cs) σ H Q) : tCB (rB b K) (LA T K cs) σ H Q := by
  obtain ⟨F, G, ρ, hK, r, ev⟩ := h
  subst hK
  simp only [evE] at ev
  refine ⟨F, G, ρ, rfl, r, evA_mono tm cs (fun rs ρ1 ev vs G1 H1 g1 rl1 so => ?_) ev⟩
  obtain ⟨ds, ev, ro⟩ := so.rd rl1 ev
  exact liftB rl1 ro ev fun z v G3 H3 p w rr => p v G3 H3 (g1.trans w.g) (rl1.grow w) rr
theorem i_mut1 (tm : T.Mono) {m : M2} {i : Nat} {cs : CA} {Q : VK} (h : LE T K (.mut m i cs) σ H Q) : tBM K "list" (rM m) (tVar i) (LK T K cs) σ H Q := by
  obtain ⟨F, G, ρ, hK, r, ev⟩ := h
  subst hK
  simp only [evE] at ev
  obtain ⟨⟨d, hd⟩, ev⟩ := ev
  obtain ⟨a, h1, h2, h3, ws, h4, h5⟩ := r.ow i _ hd
  refine ⟨.ref a, h1, .inl ⟨rfl, ws, SqL.of h4⟩, ?_⟩
  refine ⟨F, G, ρ, rfl, r, evK_mono tm cs (fun ds ρ1 ev vs G1 H1 g1 rl1 p => ?_) ev⟩
  split at ev
  · rename_i d' e
    exact liftM rl1 e h1 p ev fun d2 z v H' q rl q2 => q v G1 H' g1 rl q2
  · exact ev.elim
theorem i_mut0 (tm : T.Mono) {m : M2} {i : Nat} {Q : VK} (h : LE T K (.mut m i .nil) σ H Q) : tBM0 K "list" (rM m) (tVar i) σ H Q := by
  obtain ⟨F, G, ρ, hK, r, ev⟩ := h
  subst hK
  simp only [evE, evK] at ev
  obtain ⟨⟨d, hd⟩, ev⟩ := ev
  obtain ⟨a, h1, h2, h3, ws, h4, h5⟩ := r.ow i _ hd
  refine ⟨.ref a, h1, .inl ⟨rfl, ws, SqL.of h4⟩, ?_⟩
  split at ev
  · rename_i d' e
    exact liftM r e h1 .nil ev fun d2 z v H' q rl q2 => q v G H' (Same.refl G) rl q2
  · exact ev.elim
/-- arguments that are own lists are taken as not changed any more -/
theorem froz {F : Fr} : ∀ {rs : List R} {vs : List V} {G : Hp} {ρ0 ρ : Sta} {P : List D → Prop}, (∀ (i : Nat) (d : D), ρ0.sl[i]? = some (.ow d) → ρ.sl[i]? = some (.ow d) ∨ ρ.sl[i]? = some (.fz d)) → Rl F G H σ ρ → SOA F G σ vs rs → rdA ρ0 rs P →
    ∃ G' ds, Same G G' ∧ Rl F G' H σ (frzA ρ rs) ∧ P ds ∧ RpA F.K G' vs ds
  | [], [], G, _, _, _, _, r, _, q => ⟨G, [], Same.refl G, r, q, .nil⟩
  | .fz d :: rs, v :: vs, G, ρ0, ρ, P, hm, r, so, q => by
    obtain ⟨G', ds, g, r', p, ra⟩ := froz hm r so.2 q
    exact ⟨G', d :: ds, g, r', p, .cons (Rp.mono g so.1) ra⟩
  | .ow d :: rs, v :: vs, G, ρ0, ρ, P, hm, r, so, q => by
    obtain ⟨G', ds, g, r', p, ra⟩ := froz hm r so.2 q
    exact ⟨G', d :: ds, g, r', p, .cons (Rp.mono g so.1) ra⟩
  | .al i :: rs, v :: vs, G, ρ0, ρ, P, hm, r, so, q => by
    simp only [rdA, rd] at q
    split at q
    · rename_i d e
      have hs : σ[i]? = some (some v) := so.1
      rcases hm i d e with h | h
      · obtain ⟨G1, g1, r1, p1⟩ := r.frzS h hs
        have e2 : ρ.frz i = ρ.put i (.fz d) := by unfold Sta.frz; rw [h]
        have hm2 : ∀ (j : Nat) (d' : D), ρ0.sl[j]? = some (.ow d') → (ρ.put i (.fz d)).sl[j]? = some (.ow d') ∨ (ρ.put i (.fz d)).sl[j]? = some (.fz d') := fun j d' hj => by
          rw [put_sl]
          by_cases ej : j = i
          · subst ej
            rw [hj] at e
            cases e
            rw [List.getElem?_set_self (lt_of h)]
            exact .inr rfl
          · rw [List.getElem?_set_ne (Ne.symm ej)]
            exact hm j d' hj
        obtain ⟨G', ds, g, r', p, ra⟩ := froz hm2 r1 (SOA.mono g1 so.2) q
        refine ⟨G', d :: ds, g1.trans g, ?_, p, .cons (p1.mono g) ra⟩
        show Rl F G' H σ (frzA (ρ.frz i) rs)
        rw [e2]
        exact r'
      · obtain ⟨w, h1, h2⟩ := r.fz i d h
        rw [hs] at h1
        cases h1
        have e2 : ρ.frz i = ρ := by unfold Sta.frz; rw [h]
        obtain ⟨G', ds, g, r', p, ra⟩ := froz hm r so.2 q
        refine ⟨G', d :: ds, g, ?_, p, .cons (h2.mono g) ra⟩
        show Rl F G' H σ (frzA (ρ.frz i) rs)
        rw [e2]
        exact r'
    · exact q.elim
  | [], _ :: _, _, _, _, _, _, _, so, _ => so.elim
  | .fz _ :: _, [], _, _, _, _, _, _, so, _ => so.elim
  | .ow _ :: _, [], _, _, _, _, _, _, so, _ => so.elim
  | .al _ :: _, [], _, _, _, _, _, _, so, _ => so.elim
theorem put_bag2 (ρ : Sta) : ∀ rs : List R, (frzA ρ rs).bag = ρ.bag
  | [] => rfl
  | .fz d :: rs => by rw [frzA]; exact put_bag2 ρ rs; exact nofun
  | .ow d :: rs => by rw [frzA]; exact put_bag2 ρ rs; exact nofun
  | .al i :: rs => by
    rw [frzA, put_bag2]
    unfold Sta.frz
    split <;> rfl
theorem i_call (tm : T.Mono) {k : Nat} {cs : CA} {Q : VK} (h : LE T K (.call k cs) σ H Q) : tCallG (liftSp K (T.fn k)) (LA T K cs) σ H Q := by
  obtain ⟨F, G, ρ, hK, r, ev⟩ := h
  subst hK
  simp only [evE] at ev
  refine ⟨F, G, ρ, rfl, r, evA_mono tm cs (fun rs ρ1 ev vs G1 H1 g1 rl1 so => ?_) ev⟩
  obtain ⟨Gf, ds, gf, rlf, ev, ra⟩ := froz (fun i d h => .inl h) rl1 so ev
  have eb : (frzA ρ1 rs).bag = ρ1.bag := put_bag2 ρ1 rs
  refine ⟨Gf, ρ1.bag, ds, rlf.sub, fun b hb => rlf.bg b (by rw [eb]; exact hb), ra, tm.1 k _ ds _ _ (fun o ev v G' H' ok ro => ?_) ev⟩
  have w : GwB F.K (frzA ρ1 rs).bag Gf H1 G' H' := by rw [eb]; exact ok.gwB rlf.sub
  cases o with
  | fz d =>
    simp only at ev
    split at ev
    · rename_i fl
      obtain ⟨G2, w2, _⟩ := ok.back rlf.sub gf rl1.bg
      exact ev v G2 H' (g1.trans w2.g) (rl1.growB w2) (Rp.flat ro fl)
    · exact ev v G' H' (g1.trans (gf.trans ok.g)) (rlf.growB w) ro
  | ow d =>
    obtain ⟨a, rfl, h1, h2, h3⟩ := ro
    refine ev _ G' H' (g1.trans (gf.trans ok.g)) (rlf.growB w) ⟨a, rfl, rl1.pnw0 h1, h2, h3, fun i d' hi hs => ?_, fun b hb z => ?_⟩
    · obtain ⟨a', p1, p2, p3, p4⟩ := rlf.ow i d' hi
      rw [p1] at hs
      cases hs
      exact p4.nw0 h1
    · exact (rlf.bg b hb).nw0 (z ▸ h1)
  | al i => exact ro.elim
theorem i_callS (tm : T.Mono) {k : Nat} {cs : CA} {Q : VK} (h : LE T K (.callS k cs) σ H Q) : tCallG (liftSp K (T.fn k)) (LA T K cs) σ H Q := by
  obtain ⟨F, G, ρ, hK, r, ev⟩ := h
  subst hK
  simp only [evE] at ev
  refine ⟨F, G, ρ, rfl, r, evA_mono tm cs (fun rs ρ1 ev vs G1 H1 g1 rl1 so => ?_) ev⟩
  obtain ⟨Gf, ds, gf, rlf, ev, ra⟩ := froz (fun i d h => .inl h) rl1 so ev
  have eb : (frzA ρ1 rs).bag = ρ1.bag := put_bag2 ρ1 rs
  refine ⟨Gf, ρ1.bag, ds, rlf.sub, fun b hb => rlf.bg b (by rw [eb]; exact hb), ra, tm.1 k _ ds _ _ (fun o ev v G' H' ok ro => ?_) ev⟩
  obtain ⟨G2, w2, s2⟩ := ok.back rlf.sub gf rl1.bg
  cases o with
  | fz d => exact ev.2 v G2 H' (g1.trans w2.g) (rl1.growB w2) (Rp.flat ro ev.1)
  | ow d =>
    obtain ⟨sh, ev⟩ := ev
    cases d with
    | lst ys =>
      obtain ⟨a, rfl, h1, h2, vs0, h3, h4⟩ := ro
      have hn : G2 a = none := by
        cases e : G2 a with
        | none => rfl
        | some x => rw [s2 _ _ e] at h2; cases h2
      refine ev _ G2 H' (g1.trans w2.g) (rl1.growB w2) ⟨a, rfl, rl1.pnw0 h1, hn, ⟨vs0, h3, RpA.flatA h4 sh⟩, fun i d' hi hs => ?_, fun b hb z => ?_⟩
      · obtain ⟨a', p1, p2, p3, p4⟩ := rl1.ow i d' hi
        rw [p1] at hs
        cases hs
        exact p4.nw0 h1
      · exact (rl1.bg b hb).nw0 (z ▸ h1)
    | _ => cases sh
  | al i => exact ro.elim
/-- what a def leaves behind, for its caller -/
theorem i_heard (tm : T.Mono) {k : Nat} {cs : CA} {Q : VK} (h : LE T K (.heard k cs) σ H Q) : LamX.tLam T.tabs (TTh T) (fun E => tCall (liftSpX K T.cn T.fx (T.xfn k)) [] E (LA T K cs)) σ H Q := by
  obtain ⟨F, G, ρ, hK, r, ev⟩ := h
  subst hK
  simp only [evE] at ev
  obtain ⟨⟨b, hb, ht⟩, ev⟩ := ev
  have tb := (r.bg b hb).1
  rw [ht] at tb
  refine ⟨tb.t, fun H1 ex tb1 => ?_⟩
  have r1 : Rl F G H1 σ ρ := r.extN (fun a o e n => ex a o e n) (fun b' e' => by rw [hb] at e'; cases e'; rw [ht]; exact tb1) hb
  show LA T F.K cs σ H1 _
  refine ⟨F, G, ρ, rfl, r1, evA_mono tm cs (fun rs ρ1 ev vs G1 H2 g1 rl1 so => ?_) ev⟩
  obtain ⟨Gf, ds, gf, rlf, ev, ra⟩ := froz (fun i d h => .inl h) rl1 so ev
  have eb : (frzA ρ1 rs).bag = ρ1.bag := put_bag2 ρ1 rs
  rw [List.append_nil]
  refine ⟨Gf, ρ1.bag, ds, rlf.sub, fun b hb => rlf.bg b (by rw [eb]; exact hb), ra, tm.2 k _ ds _ _ _ _ (fun o ev v G' H' ok ro => ?_) (fun d ev v dx G' H' ok hx rp => ?_) ev⟩
  · have w : GwB F.K (frzA ρ1 rs).bag Gf H2 G' H' := by rw [eb]; exact ok.gwB rlf.sub
    have rl2 := rlf.growB w
    intro p hp
    have keyT : ∀ d G3, Same G' G3 → Rl F G3 H' σ (frzA ρ1 rs) → Rp F.K G3 v d → (∀ v G' H', Same G G' → Rl F G' H' σ (frzA ρ1 rs) → RR F G' H' σ (frzA ρ1 rs) v (.fz (.tup [.str "told", d])) → Q v H') → Q (.ref p) (upd H' p (.tup [.str "told", v])) := fun d G3 g3 rl3 rp f => by
      have w3 := Gw.newF (o := .tup [.str "told", v]) rl3.sub hp
      exact f _ (upd G3 p (.tup [.str "told", v])) _ (g1.trans (gf.trans (ok.g.trans (g3.trans w3.g)))) (rl3.grow w3) (.tup (SqT.of upd_same) (.cons (.str _) (.cons (rp.mono w3.g) .nil)))
    cases o with
    | fz d => exact keyT d G' (Same.refl G') rl2 ro ev
    | ow d =>
      obtain ⟨a, rfl, h1, h2, h3⟩ := ro
      have nw : Nw F G' H' σ (frzA ρ1 rs) a d := ⟨rlf.pnw0 (by rw [eb]; exact h1), h2, h3, fun i d' hi hs => by
        obtain ⟨a', p1, p2, p3, p4⟩ := rlf.ow i d' hi
        rw [p1] at hs
        cases hs
        exact p4.nw0 h1, fun b hb z => by
        exact (rlf.bg b hb).nw0 (z ▸ h1)⟩
      obtain ⟨G3, g3, rl3, rp3⟩ := rl2.keepN nw
      exact keyT d G3 g3 rl3 rp3 ev
    | al i => exact ro.elim
  · have w : GwB F.K (frzA ρ1 rs).bag Gf H2 G' H' := by rw [eb]; exact ok.gwB rlf.sub
    have rl2 := rlf.growB w
    refine ⟨rfl, dx, v, rfl, hx, fun p hp => ?_⟩
    have w3 := Gw.newF (o := .tup [.str "row", v]) rl2.sub hp
    exact ev _ (upd G' p (.tup [.str "row", v])) _ (g1.trans (gf.trans (ok.g.trans w3.g))) (rl2.grow w3) (.tup (SqT.of upd_same) (.cons (.str _) (.cons (rp.mono w3.g) .nil)))
/-! ### tests -/
theorem i_andT (tm : T.Mono) {a b : CT} {Q : Bool → Hp → Prop} (h : LT T K (.and a b) σ H Q) : tAnd (LT T K a) (LT T K b) σ H Q := by
  obtain ⟨F, G, ρ, hK, r, ev⟩ := h
  subst hK
  simp only [evT] at ev
  refine ⟨F, G, ρ, rfl, r, evT_mono tm a (fun k ρ1 ev G1 H1 g1 rl1 => ?_) ev⟩
  cases k with
  | true => exact ⟨F, G1, ρ1, rfl, rl1, evT_mono tm b (fun r2 ρ2 ev G2 H2 g2 => ev G2 H2 (g1.trans g2)) ev⟩
  | false => exact ev G1 H1 g1 rl1
theorem i_orT (tm : T.Mono) {a b : CT} {Q : Bool → Hp → Prop} (h : LT T K (.or a b) σ H Q) : tOr (LT T K a) (LT T K b) σ H Q := by
  obtain ⟨F, G, ρ, hK, r, ev⟩ := h
  subst hK
  simp only [evT] at ev
  refine ⟨F, G, ρ, rfl, r, evT_mono tm a (fun k ρ1 ev G1 H1 g1 rl1 => ?_) ev⟩
  cases k with
  | true => exact ev G1 H1 g1 rl1
  | false => exact ⟨F, G1, ρ1, rfl, rl1, evT_mono tm b (fun r2 ρ2 ev G2 H2 g2 => ev G2 H2 (g1.trans g2)) ev⟩
theorem i_notT (tm : T.Mono) {a : CT} {Q : Bool → Hp → Prop} (h : LT T K (.not a) σ H Q) : tNot (LT T K a) σ H Q := by
  obtain ⟨F, G, ρ, hK, r, ev⟩ := h
  subst hK
  simp only [evT] at ev
  exact ⟨F, G, ρ, rfl, r, evT_mono tm a (fun k ρ1 ev G1 H1 g1 rl1 => ev G1 H1 g1 rl1) ev⟩
theorem tru_of {G : Hp} {v : V} {d : D} {k : Bool} (h : Ro K G H v d) (s : Same G H) (e : d.truth = some k) : TruV K v H k := by
  cases d with
  | scr _ _ => cases e
  | dcn _ _ => cases e
  | non => cases h.non; cases e; rfl
  | bl b => cases h.bl; cases e; rfl
  | int i => cases h.int; cases e; rfl
  | str x =>
    cases h.str
    simp only [D.truth] at e
    split at e
    · cases e; exact ⟨by assumption, rfl⟩
    · cases e
  | lst xs =>
    obtain ⟨a, vs, rfl, h1, h2⟩ := h
    cases e
    refine .inl ⟨vs, SqL.of h1, ?_⟩
    cases h2 <;> rfl
  | tup xs =>
    obtain ⟨a, vs, rfl, h1, h2, _⟩ := h.tup s
    cases e
    refine .inr (.inl ⟨vs, h1, ?_⟩)
    cases h2 <;> rfl
  | dct xs => cases e
  | dci _ _ => cases e
  | opq v => cases e
theorem i_val (tm : T.Mono) {c : CE} {Q : Bool → Hp → Prop} (h : LT T K (.val c) σ H Q) : LE T K c σ H fun x H' => ∃ k, TruV K x H' k ∧ Q k H' := by
  obtain ⟨F, G, ρ, hK, r, ev⟩ := h
  subst hK
  simp only [evT] at ev
  refine ⟨F, G, ρ, rfl, r, evE_mono tm c (fun r1 ρ1 ev v1 G1 H1 g1 rl1 rr1 => ?_) ev⟩
  obtain ⟨G1', g1', rl1', so1⟩ := opnd rl1 rr1
  obtain ⟨d, ⟨k, e, ev⟩, ro⟩ := so1.rd rl1' ev
  exact ⟨k, tru_of ro rl1'.sub e, ev G1' H1 (g1.trans g1') rl1'⟩
/-! ### what is walked -/
theorem i_seq (tm : T.Mono) {c : CE} {W : It → Hp → Prop} (h : LI T K (.seq c) σ H W) : iSeq K (LE T K c) σ H W := by
  obtain ⟨F, G, ρ, hK, r, ev⟩ := h
  subst hK
  simp only [evI] at ev
  refine ⟨F, G, ρ, rfl, r, evE_mono tm c (fun r1 ρ1 ev v1 G1 H1 g1 rl1 rr1 => ?_) ev⟩
  obtain ⟨G1', d, ρ1', g1', rl1', p, ev⟩ := keepR rl1 rr1 ev
  split at ev
  · cases p with
    | lst h1 h2 => exact .inl ⟨_, _, rfl, .inl ⟨SqL.of (rl1'.sub _ _ h1), ev _ G1' H1 (g1.trans g1') rl1' (wk_list h1 h2)⟩⟩
  · cases p with
    | tup h1 h2 => exact .inl ⟨_, _, rfl, .inr ⟨same_sqT rl1'.sub h1, ev _ G1' H1 (g1.trans g1') rl1' (wk_tup h1 h2)⟩⟩
  · cases p
    exact .inr ⟨_, rfl, ev _ G1' H1 (g1.trans g1') rl1' wk_str⟩
  · exact ev.elim
theorem soa_fz1 {F : Fr} {G : Hp} {vs : List V} {j : Int} (h : SOA F G σ vs [.fz (.int j)]) : vs = [.int j] := by
  match vs, h with
  | [v], h => obtain ⟨h, _⟩ := h; cases h; rfl
theorem soa_fz2 {F : Fr} {G : Hp} {vs : List V} {i j : Int} (h : SOA F G σ vs [.fz (.int i), .fz (.int j)]) : vs = [.int i, .int j] := by
  match vs, h with
  | [v, w], h => obtain ⟨h, h2, _⟩ := h; cases h; cases h2; rfl
theorem evA_one {c : CE} {ρ : Sta} {P : List R → Sta → Prop} (h : evA T (.cons c .nil) ρ P) : evE T c ρ fun r ρ' => P [opd r] ρ' := by
  simp only [evA] at h
  exact h
theorem i_rng1 (tm : T.Mono) {c : CE} {W : It → Hp → Prop} (h : LI T K (.range (.cons c .nil)) σ H W) : iRng1 (LA T K (.cons c .nil)) σ H W := by
  obtain ⟨F, G, ρ, hK, r, ev⟩ := h
  subst hK
  simp only [evI, evA] at ev
  refine ⟨F, G, ρ, rfl, r, ?_⟩
  simp only [evA]
  refine evE_mono tm c (fun r1 ρ1 ev vs G1 H1 g1 rl1 so => ?_) ev
  split at ev
  · rename_i j e
    cases soa_fz1 (show SOA F G1 σ vs [.fz (.int j)] from by rw [← e]; exact so)
    have wk := wk_range (K := F.K) (lo := 0) (hi := j) (G := G1)
    rw [Int.sub_zero] at wk
    exact ⟨j, rfl, ev.1, ev.2.1, ev.2.2 _ G1 H1 g1 rl1 wk⟩
  · rename_i e; simp at e
  · rename_i e; simp at e
  · exact ev.elim
theorem i_rng2 (tm : T.Mono) {c c2 : CE} {W : It → Hp → Prop} (h : LI T K (.range (.cons c (.cons c2 .nil))) σ H W) : iRng2 (LA T K (.cons c (.cons c2 .nil))) σ H W := by
  obtain ⟨F, G, ρ, hK, r, ev⟩ := h
  subst hK
  simp only [evI, evA] at ev
  refine ⟨F, G, ρ, rfl, r, ?_⟩
  simp only [evA]
  refine evE_mono tm c (fun r1 ρ1 ev => evE_mono tm c2 (fun r2 ρ2 ev vs G1 H1 g1 rl1 so => ?_) ev) ev
  split at ev
  · rename_i e; simp at e
  · rename_i i j e
    cases soa_fz2 (show SOA F G1 σ vs [.fz (.int i), .fz (.int j)] from by rw [← e]; exact so)
    exact ⟨i, j, rfl, ev.1, ev.2 _ G1 H1 g1 rl1 wk_range⟩
  · rename_i e; simp at e
  · exact ev.elim
theorem soa_fz3 {F : Fr} {G : Hp} {vs : List V} {i j k : Int} (h : SOA F G σ vs [.fz (.int i), .fz (.int j), .fz (.int k)]) : vs = [.int i, .int j, .int k] := by
  match vs, h with
  | [v, w, x], h => obtain ⟨h, h2, h3, _⟩ := h; cases h; cases h2; cases h3; rfl
theorem i_rng3 (tm : T.Mono) {c c2 c3 : CE} {W : It → Hp → Prop} (h : LI T K (.range (.cons c (.cons c2 (.cons c3 .nil)))) σ H W) : iRng3 (LA T K (.cons c (.cons c2 (.cons c3 .nil)))) σ H W := by
  obtain ⟨F, G, ρ, hK, r, ev⟩ := h
  subst hK
  simp only [evI] at ev
  refine ⟨F, G, ρ, rfl, r, ?_⟩
  have ev' : evA T (.cons c (.cons c2 (.cons c3 .nil))) ρ fun rs ρ1 => (∃ a b d, rs = [a, b, d]) ∧ (match rs with
    | [.fz (.int j)] => -(2 ^ 62) ≤ j ∧ j < 2 ^ 62 ∧ ∀ J G' H', Same G G' → Rl F G' H' σ ρ1 → WkD F.K J (rangeD 0 j) G' → W J H'
    | [.fz (.int i), .fz (.int j)] => (-(2 ^ 62) ≤ i ∧ i < 2 ^ 62 ∧ -(2 ^ 62) ≤ j ∧ j < 2 ^ 62) ∧ ∀ J G' H', Same G G' → Rl F G' H' σ ρ1 → WkD F.K J (rangeD i j) G' → W J H'
    | [.fz (.int i), .fz (.int j), .fz (.int c)] => ∃ n, RgC i j c n ∧ ∀ J G' H', Same G G' → Rl F G' H' σ ρ1 → WkD F.K J (rangeC i c n) G' → W J H'
    | _ => False) := by
    simp only [evA] at ev ⊢
    exact evE_mono tm c (fun r1 ρ1 h => evE_mono tm c2 (fun r2 ρ2 h => evE_mono tm c3 (fun r3 ρ3 h => ⟨⟨_, _, _, rfl⟩, h⟩) h) h) ev
  refine evA_mono tm _ (fun rs ρ1 ev vs G1 H1 g1 rl1 so => ?_) ev'
  obtain ⟨⟨a, b, d, rfl⟩, ev⟩ := ev
  split at ev
  · rename_i heq; cases heq
  · rename_i heq; cases heq
  · rename_i i j k heq
    cases heq
    obtain ⟨n, h1, h2⟩ := ev
    have e := soa_fz3 so
    subst e
    exact ⟨_, _, _, n, rfl, h1, h2 _ G1 H1 g1 rl1 wk_rangeC⟩
  · exact ev.elim
theorem cmpI_rd {W : Program × World} {o : O2} {i j : Int} {k : Bool} {H : Hp} {Q : VK} (h : cmpI o i j = some k) (q : Q (.bl k) H) : rd2 W o K (.int i) (.int j) H Q := by
  cases o <;> simp only [cmpI] at h <;> first | (cases h; done) | (cases h; exact ⟨i, j, rfl, rfl, q⟩)
theorem i_chn (tm : T.Mono) {o o' : O2} {a b c : CE} {Q : VK} (h : LE T K (.chn o o' a b c) σ H Q) : tChain (rd2 T.W o K) (rd2 T.W o' K) (LE T K a) (LE T K b) (LE T K c) σ H Q := by
  obtain ⟨F, G, ρ, hK, r, ev⟩ := h
  subst hK
  simp only [evE] at ev
  refine ⟨F, G, ρ, rfl, r, evE_mono tm a (fun r1 ρ1 ev v1 G1 H1 g1 rl1 rr1 => ?_) ev⟩
  refine ⟨F, G1, ρ1, rfl, rl1, evE_mono tm b (fun r2 ρ2 ev v2 G2 H2 g2 rl2 rr2 => ?_) ev⟩
  split at ev
  · obtain ⟨k, h1, h2⟩ := ev
    cases rr1
    cases rr2
    refine cmpI_rd h1 ⟨k, rfl, ?_⟩
    cases k with
    | true =>
      rw [if_pos rfl] at h2 ⊢
      refine ⟨F, G2, ρ2, rfl, rl2, evE_mono tm c (fun r3 ρ3 ev v3 G3 H3 g3 rl3 rr3 => ?_) h2⟩
      split at ev
      · obtain ⟨k', h3, h4⟩ := ev
        cases rr3
        exact cmpI_rd h3 (h4 _ G3 H3 (g1.trans (g2.trans g3)) rl3 (.bl _))
      · exact ev.elim
    | false =>
      rw [if_neg (by decide)] at h2 ⊢
      exact h2 _ G2 H2 (g1.trans g2) rl2 (.bl _)
  · exact ev.elim
theorem i_chnT (tm : T.Mono) {o o' : O2} {a b c : CE} {Q : Bool → Hp → Prop} (h : LT T K (.chn o o' a b c) σ H Q) : tTest (tChain (rd2 T.W o K) (rd2 T.W o' K) (LE T K a) (LE T K b) (LE T K c)) σ H Q := by
  obtain ⟨F, G, ρ, hK, r, ev⟩ := h
  subst hK
  simp only [evT] at ev
  refine ⟨F, G, ρ, rfl, r, evE_mono tm a (fun r1 ρ1 ev v1 G1 H1 g1 rl1 rr1 => ?_) ev⟩
  refine ⟨F, G1, ρ1, rfl, rl1, evE_mono tm b (fun r2 ρ2 ev v2 G2 H2 g2 rl2 rr2 => ?_) ev⟩
  split at ev
  · obtain ⟨k, h1, h2⟩ := ev
    cases rr1
    cases rr2
    refine cmpI_rd h1 ⟨k, rfl, ?_⟩
    cases k with
    | true =>
      rw [if_pos rfl] at h2 ⊢
      refine ⟨F, G2, ρ2, rfl, rl2, evE_mono tm c (fun r3 ρ3 ev v3 G3 H3 g3 rl3 rr3 => ?_) h2⟩
      split at ev
      · obtain ⟨k', h3, h4⟩ := ev
        cases rr3
        exact cmpI_rd h3 ⟨_, rfl, h4 G3 H3 (g1.trans (g2.trans g3)) rl3⟩
      · exact ev.elim
    | false =>
      rw [if_neg (by decide)] at h2 ⊢
      exact ⟨_, rfl, h2 G2 H2 (g1.trans g2) rl2⟩
  · exact ev.elim
theorem i_enum (tm : T.Mono) {c : CE} {W : It → Hp → Prop} (h : LI T K (.enum c) σ H W) : iEnumX K (LK T K (.cons c .nil)) σ H W := by
  obtain ⟨F, G, ρ, hK, r, ev⟩ := h
  subst hK
  simp only [evI] at ev
  refine ⟨F, G, ρ, rfl, r, ?_⟩
  simp only [evK]
  refine evE_mono tm c (fun r1 ρ1 ev => keep_mono (fun d ρ2 ev vs G1 H1 g1 rl1 p => ?_) ev) ev
  cases p with
  | cons p1 p2 =>
    cases p2
    split at ev
    · obtain ⟨k, a, us, e1, s1, q1⟩ := rp_seqX p1 rfl
      subst e1
      exact ⟨k, a, us, rfl, s1 _ rl1.sub, ev _ G1 H1 g1 rl1 (wk_enum s1 q1)⟩
    · obtain ⟨k, a, us, e1, s1, q1⟩ := rp_seqX p1 rfl
      subst e1
      exact ⟨k, a, us, rfl, s1 _ rl1.sub, ev _ G1 H1 g1 rl1 (wk_enum s1 q1)⟩
    · exact ev.elim
theorem i_zip (tm : T.Mono) {c : CA} {W : It → Hp → Prop} (h : LI T K (.zip c) σ H W) : iZipX K (LK T K c) σ H W := by
  obtain ⟨F, G, ρ, hK, r, ev⟩ := h
  subst hK
  simp only [evI] at ev
  refine ⟨F, G, ρ, rfl, r, ?_⟩
  refine evK_mono tm c (fun ds ρ1 ev vs G1 H1 g1 rl1 p => ?_) ev
  split at ev
  · obtain ⟨xs, ys, h1, h2, h3⟩ := ev
    cases p with
    | cons p1 p2 =>
      cases p2 with
      | cons p2 p3 =>
        cases p3
        obtain ⟨k, a, us, e1, s1, q1⟩ := rp_seqX p1 h1
        obtain ⟨l, b, ws, e2, s2, q2⟩ := rp_seqX p2 h2
        subst e1 e2
        exact ⟨k, l, a, b, us, ws, rfl, s1 _ rl1.sub, s2 _ rl1.sub, h3 _ G1 H1 g1 rl1 (wk_zip s1 s2 q1 q2)⟩
  · exact ev.elim
end
end DI

set_option Elab.async false
set_option linter.all false
set_option autoImplicit false
set_option maxRecDepth 100000
set_option maxHeartbeats 1000000
/-! DIdc: dict comprehensions without a test, the dict of any kind. -/
namespace DI
open PySem PySem.Spec PyProof.Rows L2
section
/-- how a dict of a kind begins and takes a pair -/
structure DKd (P : Program) (w : World) (K : PySem.W.Frag) (u0 : Nat) where
  o0 : Addr → HO
  put : V → V → Addr → Hp → (Hp → Prop) → Prop
  new : ∀ (H : Hp) (h : Heap), sysModules < h.objs.size → ObjOk P w H (h.push { cls := .type "dict", data := .dict #[] }) h.objs.size (o0 h.objs.size)
  set : ∀ (Y : Cx) (ps : List (Addr × Obj)) (s : Shared) (τ : L2.St) (H : Hp) (a : Addr) (y z : V) (u r : Value) (N : Hp → Prop) (E : Value → Shared → Prop) (Q : Unit → Shared → Prop), Y.prog = P → Y.w = w → Y.K = K → Y.A.units + u0 < cLine → Inv Y ps τ H s → put y z a H N → RelV y u → RelV z r → (∀ s' H', Inv Y ps τ H' s' → N H' → Q () s') →
    wpAny (model Y.prog Y.w) Y.A (dictSet a u r) Q E s
variable {X : Cx} {u0 : Nat}
/-- what {k: v for target in iter} asks -/
def tDg (k : DKd X.prog X.w X.K u0) (wi : TI) (g : TG) (tk tv : TE) (vs : List Nat) : TE := fun σ H Q => wi σ H fun J H1 => ∀ a, H1 a = none → ∃ W : Nat → Nat → Hp → Prop, (∃ m, W 0 m (upd H1 a (k.o0 a))) ∧
  ∀ i m H, W i m H → (J.stop i H ∧ Q (.ref a) H) ∨ (J.go i H ∧ ∃ N : Hp → Prop, (∀ H', N H' → ∃ m', m' < m ∧ W (i + 1) m' H') ∧
    ∀ x H', J.yld i H x H' → g x (wipe σ vs) H' fun τ H2 => wipe τ vs = wipe σ vs ∧ tk τ H2 fun y H3 => tv τ H3 fun z H4 => k.put y z a H4 N)
abbrev BlkX (X : Cx) (scope : Scope) (s : Shared) (H : Hp) (c : Addr) (cl : List (Str × Addr)) (fp : List Addr) : Cx := X.blk s H scope (compEnvC scope cl c X.env) fp
theorem pe_dg (k : DKd X.prog X.w X.K u0) {kx vx tg it : Expr} {scope : Scope} {own : List (Str × Nat)} {pos : Pos} {wi : TI} {g : TG} {tk tv : TE} (cm : X.calm = true) (nd : X.N.Nodup) (un : X.A.units + u0 < cLine) (pi : PI X tg it wi) (bo : BlkOk X.N X.env.scope scope own)
    (pg : ∀ s H c cl fp, PG (BlkX X scope s H c cl fp) tg g) (pk : ∀ s H c cl fp, PE (BlkX X scope s H c cl fp) kx tk) (pv : ∀ s H c cl fp, PE (BlkX X scope s H c cl fp) vx tv) (fs : ∀ x, foldedSetIterable it X.env x = pure x) :
    PE X (.DictComp kx vx [⟨tg, it, [], 0⟩] scope pos) (tDg k wi g tk tv (own.map (·.2))) := by
  refine ⟨fun ps s σ H Q I h => ?_⟩
  have fr : ∀ y ∈ scope.names, y.2 = .free → ∃ c, X.env.cells.lookup y.1 = some c := fun y hy e => (bo.free y hy e).elim (fun z => I.ok.has _ (.inl z)) fun z => I.ok.has _ (.inr z)
  rw [arm_eval_DictComp]
  refine wpAny_comprehension_free (use := none) rfl fs (closure_ok fr) bo.kind (fun y hy e => by rw [bo.uniq y hy, e]) (thn (pi.run ps s σ H _ I h) fun xv sa ha => thn ha fun iv sb hb => ?_)
  obtain ⟨ia, fp, tn, J, Hb, rfl, Ib, TT, tb, fb, q⟩ := hb
  refine wpAny_newObj_type (newEnv_comp ?_)
  have fresh : Hb sb.heap.objs.size = none := Ib.hok.fresh (Nat.le_refl _)
  obtain ⟨W, ⟨m0, w0⟩, turn⟩ := q _ fresh
  generalize ea : sb.heap.objs.size = a at fresh w0 turn ⊢
  generalize ec : ({ sb with heap := sb.heap.push { cls := .type "dict", data := .dict #[] } } : Shared) = sc
  have hc : sc.heap = sb.heap.push { cls := .type "dict", data := .dict #[] } := by rw [← ec]
  have Ic : Inv X ps σ (upd Hb a (k.o0 a)) sc := by
    rw [← ec, ← ea]
    exact Ib.laid (t' := sb.toks) (fun b o e => Heap.get?_push_of_some _ e) (Nat.le_refl _) (k.new _ _ Ib.big)
  have fpc : ∀ b ∈ fp, FpOk X ps (upd Hb a (k.o0 a)) b ∧ b < sc.heap.objs.size := fun b hb => by
    obtain ⟨o, e, _⟩ := TT.obj _ _ tb b hb
    have lt := Heap.lt_size e
    have ne : b ≠ a := by rw [← ea]; exact Nat.ne_of_lt lt
    exact ⟨⟨by rw [upd_ne ne]; exact (fb b hb).1, (fb b hb).2⟩, by rw [hc, Heap.size_push]; exact Nat.lt_succ_of_lt lt⟩
  have tc : tn 0 sc.heap := TT.keep _ _ _ tb fun b _ o e => by rw [hc]; exact Heap.get?_push_of_some _ e
  have Id := block_start Ic bo nd fpc
  have nfp : ∀ b ∈ fp, (upd Hb a (k.o0 a)) b = none := fun b hb => (fpc b hb).1.1
  have pg' : PG (X.blk sc (upd Hb a (k.o0 a)) scope (compEnvC scope (cellsFrom (sc.heap.objs.size + 1) scope.names (cloFrom X.env.cells scope.names [])) sc.heap.objs.size X.env) fp) tg g := pg sc (upd Hb a (k.o0 a)) sc.heap.objs.size (cellsFrom (sc.heap.objs.size + 1) scope.names (cloFrom X.env.cells scope.names [])) fp
  have pk' : PE (X.blk sc (upd Hb a (k.o0 a)) scope (compEnvC scope (cellsFrom (sc.heap.objs.size + 1) scope.names (cloFrom X.env.cells scope.names [])) sc.heap.objs.size X.env) fp) kx tk := pk sc (upd Hb a (k.o0 a)) sc.heap.objs.size (cellsFrom (sc.heap.objs.size + 1) scope.names (cloFrom X.env.cells scope.names [])) fp
  have pv' : PE (X.blk sc (upd Hb a (k.o0 a)) scope (compEnvC scope (cellsFrom (sc.heap.objs.size + 1) scope.names (cloFrom X.env.cells scope.names [])) sc.heap.objs.size X.env) fp) vx tv := pv sc (upd Hb a (k.o0 a)) sc.heap.objs.size (cellsFrom (sc.heap.objs.size + 1) scope.names (cloFrom X.env.cells scope.names [])) fp
  show codeAny _ _ (.compStart (.DictComp kx vx [⟨tg, it, [], 0⟩] scope pos) 0 (.ref ia) (.ref a) (compEnvC scope (cellsFrom (sc.heap.objs.size + 1) scope.names (cloFrom X.env.cells scope.names [])) sc.heap.objs.size X.env)) (compPost (model X.prog X.w) X.A X.xe none (EP X ps σ Q) (.ref a) sc.heap.objs.size)
    { sc with heap := pushCells (sc.heap.push { cls := .type "dict", data := .dict #[] }) scope.names }
  generalize ee : compEnvC scope (cellsFrom (sc.heap.objs.size + 1) scope.names (cloFrom X.env.cells scope.names [])) sc.heap.objs.size X.env = ce at Id pg' pk' pv' ⊢
  have lc : ce.locals = sc.heap.objs.size := by rw [← ee]; rfl
  generalize eH : upd Hb a (k.o0 a) = Hc at Ic Id pg' pk' pv' w0 nfp fpc
  generalize es : ({ sc with heap := pushCells (sc.heap.push { cls := .type "dict", data := .dict #[] }) scope.names } : Shared) = sd at Id ⊢
  have td : tn 0 sd.heap := TT.keep _ _ _ tc fun b _ o e => by rw [← es]; exact pushCells_keeps _ _ _ _ (Heap.get?_push_of_some _ e)
  have stn : ∀ {τ : L2.St} {H' : Hp} {s' : Shared}, Inv (X.blk sc Hc scope ce fp) [] τ H' s' → (∀ b ∈ fp, H' b = none) → ∀ b ∈ fp, FpOk (X.blk sc Hc scope ce fp) [] H' b := fun {τ H' s'} J' hn b hb =>
    ⟨hn b hb, (J'.ok.exf b hb).1, J'.ok.exfs b hb, .inl hb, (J'.ok.exf b hb).2, fun p hp => absurd (show p ∈ ([] : List (Addr × Obj)) ++ [] from hp) (by simp)⟩
  suffices loop : codeAny (model X.prog X.w) X.A (.compLoop (.DictComp kx vx [⟨tg, it, [], 0⟩] scope pos) 0 (.ref ia) (.ref a) ce) (compPost (model X.prog X.w) X.A X.xe none (EP X ps σ Q) (.ref a) sc.heap.objs.size) sd from codeAny_compStart_dict loop (TT.self X.A 0 _ _ _ td loop)
  refine compLoop_anyD (fun n s' => ∃ i H', Inv (X.blk sc Hc scope ce fp) [] (wipe σ (own.map (·.2))) H' s' ∧ tn i s'.heap ∧ (∀ b ∈ fp, H' b = none) ∧ W i n H') (fun n s5 hI => ?_) m0 ⟨0, Hc, Id, td, nfp, w0⟩
  obtain ⟨i, H5, I5, t5, n5, w5⟩ := hI
  rcases turn i n H5 w5 with ⟨stop, fin⟩ | ⟨go, N, hN, step⟩
  · refine thnF (TT.done (X.blk sc Hc scope ce fp) rfl rfl rfl cm i [] s5 _ H5 (fun _ _ => False) I5 (stn I5 n5) t5 stop) fun r s6 ⟨er, I6⟩ => ?_
    subst er
    have I7 : Inv X ps σ H5 s6 := Ic.call' (ch := fp) I6.os I6.base I6.hok I6.bare fun b hb => ⟨(fpc b hb).1.2.2.2.1, (fpc b hb).1.2.1, (fpc b hb).1.2.2.2.2.1, (fpc b hb).1.2.2.2.2.2⟩
    have nl : H5 sc.heap.objs.size = none := lc ▸ (show H5 ce.locals = none from I6.free)
    obtain ⟨m, hn, _⟩ := I6.loc
    have hn : s6.heap.Ns sc.heap.objs.size m := lc ▸ (show s6.heap.Ns ce.locals m from hn)
    obtain ⟨f0, f1, f2, f3, f4, f5⟩ := Ic.fpOk (Nat.le_refl _) nl
    exact ⟨m, hn, fun h2 sb2 => ⟨.ref a, H5, I7.turned (t' := s6.toks) (fun b o hb e => (sb2.2 b hb).trans e) f0 f1 f3 f4 f5, rfl, fin⟩⟩
  · refine thnF (TT.item (X.blk sc Hc scope ce fp) rfl rfl rfl cm i [] s5 _ H5 (fun _ _ => False) I5 (stn I5 n5) t5 go) fun r s6 ⟨u, er, h6⟩ => ?_
    subst er
    refine thnF h6 fun _ s7 ⟨x, H7, I7, r7, y7, t7, n7⟩ => ?_
    refine thnF (pg'.run _ s7 _ H7 x u _ (I7.pinned (stn I7 n7) (TT.obj _ _ t7)) r7 (step x H7 y7)) fun _ s8 ⟨τ, H8, I8, e8, q8⟩ => ?_
    show wpAny _ _ (forIn ([] : List Expr) true _) _ _ _
    rw [List.forIn_nil]
    refine wpAny_pure ?_
    rw [if_pos rfl]
    refine thnF (pk'.run _ s8 τ H8 _ I8 q8) fun uk s9 ⟨yk, H9, I9, r9, q9⟩ => ?_
    refine thnF (pv'.run _ s9 τ H9 _ I9 q9) fun uv s10 ⟨yv, H10, I10, r10, q10⟩ => ?_
    refine k.set (X.blk sc Hc scope ce fp) _ s10 τ H10 a yk yv uk uv N _ _ rfl rfl rfl un I10 q10 r9 r10 fun s11 H11 I11 hx => ?_
    obtain ⟨m', lm, w'⟩ := hN H11 hx
    have pin : ∀ b ∈ fp, ∀ o, s7.heap.get? b = some o → s11.heap.get? b = some o ∧ H11 b = none := fun b hb o e =>
      have z := I11.pin (b, o) (List.mem_append_right _ (List.mem_append_right _ (mem_pinsAt hb e)))
      ⟨z.1, z.2.1⟩
    refine ⟨m', lm, i + 1, H11, (I11.unpinned (pins := [])).weak (by rw [← e8, wipe_length]) fun j v e => ?_, TT.keep _ _ _ t7 fun b hb o e => (pin b hb o e).1, fun b hb => ?_, w'⟩
    · rw [← e8] at e
      exact (wipe_some e).1
    · obtain ⟨o, e, _⟩ := TT.obj _ _ t7 b hb
      exact (pin b hb o e).2
/-- dicts keyed by nested tuples -/
def kdN (X : Cx) : DKd X.prog X.w X.K 75 where
  o0 := fun a => DnO (X.prog, X.w) a []
  put := fun y z a H N => ∃ b xs ds dk k, y = .ref b ∧ H a = some (DnO (X.prog, X.w) a xs) ∧ RpN X.K H xs ds ∧ Rp X.K H (.ref b) dk ∧ dk.nk = some k ∧ k.depth ≤ 8 ∧ xs.length < sizeLine ∧ ∀ u, RelV z u → N (upd H a (DnO (X.prog, X.w) a (storedH xs k b u)))
  new := fun H h big => dn_ok (Nat.zero_le _) (beq_eq_false_iff_ne.mpr (Ne.symm (Nat.ne_of_lt big))) (Heap.DictOfH.new h)
  set := by
    intro Y ps s τ H a y z u r N E Q hP hw hK un I hput ry rz fin
    obtain ⟨b, xs, ds, dk, k, rfl, h1, h2, h3, h4, h5, h6, nx⟩ := hput
    rw [← hP, ← hw] at h1 nx
    rw [← hK] at h2 h3
    cases ry
    obtain ⟨lz, lo, dd⟩ := dn_of I h1 h2
    refine wpAny_dictSet_heap (knd := nestedKind Y.prog Y.w) (hsz := lz) (show Y.A.units + 8 < cLine by omega) ⟨nk_is I h3 h4 rfl, h5⟩ dd fun h' dd' hs => ?_
    have hl : (storedH xs k b r).length ≤ sizeLine := by have := storedH_length xs k b r; omega
    have he : ∃ q, h'.get? a = some q := let ⟨q, _, _, hq, _⟩ := dd'; ⟨q, hq⟩
    exact fin _ _ (d_write I (by rw [h1]; exact True.intro) hs he (dn_ok hl lo dd')) (nx r rz)
end
end DI

set_option Elab.async false
set_option linter.all false
set_option autoImplicit false
set_option maxRecDepth 100000
set_option maxHeartbeats 1000000
/-! DI3e: comprehensions; expressions are sound. -/
namespace DI
open PySem PySem.Spec PyProof.Rows L2
section
variable {T : Tb} {K : PySem.W.Frag} {σ : L2.St} {H : Hp}
theorem gIn_of {g : CG} {own : List Nat} (h : gIn g own = true) : ∀ j, j ∉ own → j ∉ g.slots := by
  intro j hj hs
  cases g with
  | name i =>
    simp only [CG.slots, List.mem_singleton] at hs
    subst hs
    simp only [gIn, List.contains_eq_mem, decide_eq_true_eq] at h
    exact hj h
  | tup is =>
    simp only [gIn, List.all_eq_true, List.contains_eq_mem, decide_eq_true_eq] at h
    exact hj (h j hs)
/-- an item has come -/
theorem came {F : Fr} {G : Hp} {H' : Hp} {ρ : Sta} {x : V} {d : D} {p : Addr → Prop} (r : Rl F G H σ ρ) (h : (H' = H ∧ Rp F.K G x d) ∨ ∃ T vs es, x = .ref T ∧ H T = none ∧ H' = upd H T (.tup vs) ∧ d = .tup es ∧ RpA F.K G vs es) :
    ∃ G', Gw G H G' H' ∧ Rp F.K G' x d := by
  rcases h with ⟨e, q⟩ | ⟨t, vs, es, e1, e2, e3, e4, q⟩
  · subst e
    exact ⟨G, Gw.refl r.sub, q⟩
  · subst e1 e3 e4
    have w := Gw.newF (o := .tup vs) r.sub e2
    exact ⟨_, w, .tup (SqT.of upd_same) (q.mono w.g)⟩
/-- what a comprehension asks behind its iterable -/
def lcR (g : TG) (tt : TT) (te : TE) (vs : List Nat) (σ : L2.St) (Q : VK) (J : It) (H1 : Hp) : Prop := ∀ D, H1 D = none → ∃ W : Nat → Nat → Hp → Prop, (∃ m, W 0 m (upd H1 D (.lst []))) ∧ ∀ i m H, W i m H →
  (J.stop i H ∧ Q (.ref D) H) ∨ (J.go i H ∧ ∃ Nx : Hp → Prop, (∀ H', Nx H' → ∃ m', m' < m ∧ W (i + 1) m' H') ∧ ∀ x H', J.yld i H x H' → g x (wipe σ vs) H' fun σ2 H2 => wipe σ2 vs = wipe σ vs ∧ tt σ2 H2 fun b H3 =>
    if b = true then te σ2 H3 fun y H4 => ∃ acc, H4 D = some (.lst acc) ∧ acc.length < sizeLine ∧ Nx (upd H4 D (.lst (acc ++ [y]))) else Nx H3)
theorem comp_core (tm : T.Mono) {own : List Nat} {g : CG} {c : CC} {e : CE} {Q : VK} {F : Fr} {G G1 H1 : Hp} {ρ1 : Sta} {J : It} {ds : List D} (hg : gIn g own = true) (g1 : Same G G1) (rl1 : Rl F G1 H1 σ ρ1) (wk : WkD F.K J ds G1)
    (ev : compD (fun d ρ2 k => asgG g d ρ2 fun ρ3 => evC T c ρ3 fun b ρ4 => if b = true then evE T e ρ4 fun r ρ5 => keep r ρ5 fun x ρ6 => k (some x) (wipes ρ6 own) else k none (wipes ρ4 own)) ds [] (wipes ρ1 own)
      fun acc ρ7 => ∀ v G' H', Same G G' → Rl F G' H' σ (backs ρ1 ρ7 own) → RR F G' H' σ (backs ρ1 ρ7 own) v (.ow (.lst acc)) → Q v H') :
    lcR (LG F.K g) (LC T F.K c) (LE T F.K e) own σ Q J H1 := by
  intro Z hZ
  have rw1 : Rl F G1 H1 (wipe σ own) (wipes ρ1 own) := rl1.wipe
  have rD := rw1.grow (Gw.new rw1.sub hZ (o := .lst []))
  have nD : Nw F G1 (upd H1 Z (.lst [])) (wipe σ own) (wipes ρ1 own) Z (.lst []) := rw1.nw hZ ⟨[], upd_same, .nil⟩
  generalize hst : (fun (d : D) (ρ2 : Sta) (k : Option D → Sta → Prop) => asgG g d ρ2 fun ρ3 => evC T c ρ3 fun b ρ4 => if b = true then evE T e ρ4 fun r ρ5 => keep r ρ5 fun x ρ6 => k (some x) (wipes ρ6 own) else k none (wipes ρ4 own)) = step at ev
  have hst' : ∀ d ρ2 k, step d ρ2 k = asgG g d ρ2 fun ρ3 => evC T c ρ3 fun b ρ4 => if b = true then evE T e ρ4 fun r ρ5 => keep r ρ5 fun x ρ6 => k (some x) (wipes ρ6 own) else k none (wipes ρ4 own) := fun d ρ2 k => by rw [← hst]
  refine ⟨fun i m H => m = ds.length - i ∧ i ≤ ds.length ∧ ∃ G2 ρ2 acc, Same G1 G2 ∧ Rl F G2 H (wipe σ own) ρ2 ∧ Nw F G2 H (wipe σ own) ρ2 Z (.lst acc) ∧ compD step (ds.drop i) acc ρ2 _, ⟨ds.length, by simp, Nat.zero_le _, G1, _, [], Same.refl _, rD, nD, ev⟩, ?_⟩
  rintro i m H2 ⟨rfl, hi, G2, ρ2, acc, g2, rl2, n2, cd⟩
  by_cases hlt : i < ds.length
  · rw [List.drop_eq_getElem_cons hlt] at cd
    obtain ⟨hz, cd⟩ := cd
    rw [hst'] at cd
    refine .inr ⟨wk.goes i H2 hlt (g2.trans rl2.sub), fun H' => ∃ G2 ρ2 acc, Same G1 G2 ∧ Rl F G2 H' (wipe σ own) ρ2 ∧ Nw F G2 H' (wipe σ own) ρ2 Z (.lst acc) ∧ compD step (ds.drop (i + 1)) acc ρ2 _, fun H' q => ⟨ds.length - (i + 1), by omega, rfl, hlt, q⟩, fun x H' y => ?_⟩
    obtain ⟨d, e1, e2⟩ := wk.yields i H2 x H' hlt (g2.trans rl2.sub) y
    rw [List.getElem?_eq_getElem hlt] at e1
    cases e1
    have e2' : (H' = H2 ∧ Rp F.K G2 x ds[i]) ∨ ∃ T vs es, x = .ref T ∧ H2 T = none ∧ H' = upd H2 T (.tup vs) ∧ ds[i] = .tup es ∧ RpA F.K G2 vs es := by
      rcases e2 with ⟨q1, q2⟩ | ⟨t, vs, es, q1, q2, q3, q4, q5⟩
      · exact .inl ⟨q1, q2.mono g2⟩
      · exact .inr ⟨t, vs, es, q1, q2, q3, q4, q5.mono g2⟩
    obtain ⟨G3, w3, p3⟩ := came (p := fun _ => True) rl2 e2'
    have rl3 := rl2.grow w3
    have n3 := w3.nw n2
    obtain ⟨vacc, hacc, racc⟩ := n3.con
    have ra := rl3.aside n3 hacc
    refine ⟨F.aside Z (.lst vacc), G3, ρ2, _, rfl, ra, p3, asgG_mono (fun ρ3 cd σ3 hl hoff rl4 => ?_) cd⟩
    have hw : wipe σ3 own = wipe σ own := by
      rw [wipe_eq (σ := wipe σ own) hl fun j hj => hoff j (gIn_of hg j hj), wipe_wipe]
    refine ⟨hw, F.aside Z (.lst vacc), G3, ρ3, rfl, rl4, evC_mono tm c (fun b ρ4 cd G5 H5 g5 rl5 => ?_) cd⟩
    cases b with
    | true =>
      refine ⟨F.aside Z (.lst vacc), G5, ρ4, rfl, rl5, evE_mono tm e (fun r ρ5 cd v G6 H6 g6 rl6 rr6 => ?_) cd⟩
      obtain ⟨G7, x7, ρ7, g7, rl7, p7, cd⟩ := keepR rl6 rr6 cd
      obtain ⟨rl8, n8⟩ := rl3.unaside n3 hacc (g5.trans (g6.trans g7)) rl7
      obtain ⟨vs8, h8, r8⟩ := n8.con
      refine ⟨vs8, h8, by rw [r8.length]; exact hz, ?_⟩
      obtain ⟨rl9, n9⟩ := rl8.mutN n8 (o := .lst (vs8 ++ [v])) (d' := .lst (acc ++ [x7])) ⟨_, upd_same, r8.append (.cons p7 .nil)⟩
      have r10 := rl9.wipe (is := own)
      have n10 := n9.wipe (is := own)
      rw [hw] at r10 n10
      exact ⟨G7, _, _, g2.trans (w3.g.trans (g5.trans (g6.trans g7))), r10, n10, cd⟩
    | false =>
      obtain ⟨rl8, n8⟩ := rl3.unaside n3 hacc g5 rl5
      have r10 := rl8.wipe (is := own)
      have n10 := n8.wipe (is := own)
      rw [hw] at r10 n10
      have cd : compD step (ds.drop (i + 1)) (acc ++ []) _ _ := cd
      rw [List.append_nil] at cd
      exact ⟨G5, _, _, g2.trans (w3.g.trans g5), r10, n10, cd⟩
  · have ei : i = ds.length := by omega
    subst ei
    rw [List.drop_length] at cd
    exact .inl ⟨wk.stops H2 (g2.trans rl2.sub), cd _ G2 H2 (g1.trans g2) (rl2.backs rl1 g2) ⟨Z, rfl, n2.backs⟩⟩
theorem i_comp (tm : T.Mono) {own : List Nat} {g : CG} {it : CI} {c : CC} {e : CE} {Q : VK} (hg : gIn g own = true) (h : LE T K (.comp own g it c e) σ H Q) : tLc (LI T K it) (LG K g) (LC T K c) (LE T K e) own σ H Q := by
  obtain ⟨F, G, ρ, hK, r, ev⟩ := h
  subst hK
  simp only [evE] at ev
  exact ⟨F, G, ρ, rfl, r, evI_mono tm it (fun ds ρ1 ev J G1 H1 g1 rl1 wk => comp_core tm hg g1 rl1 wk ev) ev⟩
/-- a dict comprehension -/
theorem i_dcomp {X : Cx} (hW : T.W = (X.prog, X.w)) (tm : T.Mono) {own : List Nat} {g : CG} {it : CI} {a e : CE} {Q : VK} (hg : gIn g own = true) (h : LE T X.K (.dcomp own g it a e) σ H Q) :
    tDg (kdN X) (LI T X.K it) (LG X.K g) (LE T X.K a) (LE T X.K e) own σ H Q := by
  obtain ⟨F, G, ρ, hK, r, ev⟩ := h
  simp only [evE] at ev
  rw [← hK]
  refine ⟨F, G, ρ, rfl, r, evI_mono tm it (fun ds ρ1 ev J G1 H1 g1 rl1 wk => ?_) ev⟩
  intro Z hZ
  have rw1 : Rl F G1 H1 (wipe σ own) (wipes ρ1 own) := rl1.wipe
  have rD := rw1.grow (Gw.new rw1.sub hZ (o := DnO (X.prog, X.w) Z []))
  have nD : Nw F G1 (upd H1 Z (DnO (X.prog, X.w) Z [])) (wipe σ own) (wipes ρ1 own) Z (.dcn (X.prog, X.w) []) := rw1.nw hZ ⟨[], upd_same, .nil⟩
  rw [hW] at ev
  generalize hst : (fun (d : D) (ρ2 : Sta) (k : D → D → Sta → Prop) => asgG g d ρ2 fun ρ3 => evE T a ρ3 fun r ρ4 => keep r ρ4 fun x ρ5 => evE T e ρ5 fun s ρ6 => keep s ρ6 fun y ρ7 => k x y (wipes ρ7 own)) = step at ev
  have hst' : ∀ d ρ2 k, step d ρ2 k = asgG g d ρ2 fun ρ3 => evE T a ρ3 fun r ρ4 => keep r ρ4 fun x ρ5 => evE T e ρ5 fun s ρ6 => keep s ρ6 fun y ρ7 => k x y (wipes ρ7 own) := fun d ρ2 k => by rw [← hst]
  refine ⟨fun i m H => m = ds.length - i ∧ i ≤ ds.length ∧ ∃ G2 ρ2 acc, Same G1 G2 ∧ Rl F G2 H (wipe σ own) ρ2 ∧ Nw F G2 H (wipe σ own) ρ2 Z (.dcn (X.prog, X.w) acc) ∧ dcompD step (ds.drop i) acc ρ2 _, ⟨ds.length, by simp, Nat.zero_le _, G1, _, [], Same.refl _, rD, nD, ev⟩, ?_⟩
  rintro i m H2 ⟨rfl, hi, G2, ρ2, acc, g2, rl2, n2, cd⟩
  by_cases hlt : i < ds.length
  · rw [List.drop_eq_getElem_cons hlt] at cd
    obtain ⟨hz, cd⟩ := cd
    rw [hst'] at cd
    refine .inr ⟨wk.goes i H2 hlt (g2.trans rl2.sub), fun H' => ∃ G2 ρ2 acc, Same G1 G2 ∧ Rl F G2 H' (wipe σ own) ρ2 ∧ Nw F G2 H' (wipe σ own) ρ2 Z (.dcn (X.prog, X.w) acc) ∧ dcompD step (ds.drop (i + 1)) acc ρ2 _, fun H' q => ⟨ds.length - (i + 1), by omega, rfl, hlt, q⟩, fun x H' y => ?_⟩
    obtain ⟨d, e1, e2⟩ := wk.yields i H2 x H' hlt (g2.trans rl2.sub) y
    rw [List.getElem?_eq_getElem hlt] at e1
    cases e1
    have e2' : (H' = H2 ∧ Rp F.K G2 x ds[i]) ∨ ∃ T vs es, x = .ref T ∧ H2 T = none ∧ H' = upd H2 T (.tup vs) ∧ ds[i] = .tup es ∧ RpA F.K G2 vs es := by
      rcases e2 with ⟨q1, q2⟩ | ⟨t, vs, es, q1, q2, q3, q4, q5⟩
      · exact .inl ⟨q1, hK ▸ q2.mono g2⟩
      · exact .inr ⟨t, vs, es, q1, q2, q3, q4, hK ▸ q5.mono g2⟩
    obtain ⟨G3, w3, p3⟩ := came (p := fun _ => True) rl2 e2'
    have rl3 := rl2.grow w3
    have n3 := w3.nw n2
    obtain ⟨vacc, hacc, racc⟩ := n3.con
    have ra := rl3.aside n3 hacc
    refine ⟨F.aside Z (DnO (X.prog, X.w) Z vacc), G3, ρ2, _, rfl, ra, p3, asgG_mono (fun ρ3 cd σ3 hl hoff rl4 => ?_) cd⟩
    have hw : wipe σ3 own = wipe σ own := by
      rw [wipe_eq (σ := wipe σ own) hl fun j hj => hoff j (gIn_of hg j hj), wipe_wipe]
    refine ⟨hw, F.aside Z (DnO (X.prog, X.w) Z vacc), G3, ρ3, rfl, rl4, evE_mono tm a (fun r4 ρ4 cd v5 G5 H5 g5 rl5 rr5 => ?_) cd⟩
    obtain ⟨G6, x6, ρ6, g6, rl6, p6, cd⟩ := keepR rl5 rr5 cd
    refine ⟨F.aside Z (DnO (X.prog, X.w) Z vacc), G6, ρ6, rfl, rl6, evE_mono tm e (fun r7 ρ7 cd v7 G7 H7 g7 rl7 rr7 => ?_) cd⟩
    obtain ⟨G8, x8, ρ8, g8, rl8, p8, cd⟩ := keepR rl7 rr7 cd
    obtain ⟨rl9, n9⟩ := rl3.unaside n3 hacc (g5.trans (g6.trans (g7.trans g8))) rl8
    obtain ⟨vs9, h9, r9⟩ := n9.con
    cases x6 with
    | tup ks =>
      obtain ⟨n, hn, hd, cd⟩ := cd
      have p6' : Rp F.K G8 v5 (.tup ks) := p6.mono (g7.trans g8)
      have hl9 : vs9.length = acc.length := by
        have := (bears_keys r9).length
        rw [List.length_map, List.length_map] at this
        exact this
      cases p6' with
      | tup t1 t2 =>
        refine ⟨_, vs9, acc, .tup ks, n, rfl, h9, hK ▸ r9.mono rl9.sub, hK ▸ (Rp.tup t1 t2).mono rl9.sub, hn, hd, by omega, fun u ru => ?_⟩
        obtain ⟨rl10, n10⟩ := rl9.mutN n9 (o := DnO (X.prog, X.w) Z (storedH vs9 n _ u)) (d' := .dcn (X.prog, X.w) (putN acc n (.tup ks) x8)) ⟨_, upd_same, rpN_put r9 (.tup t1 t2) hn hd ru p8⟩
        have r11 := rl10.wipe (is := own)
        have n11 := n10.wipe (is := own)
        rw [hw] at r11 n11
        exact ⟨G8, _, _, g2.trans (w3.g.trans (g5.trans (g6.trans (g7.trans g8)))), r11, n11, cd⟩
    | _ => exact cd.elim
  · have ei : i = ds.length := by omega
    subst ei
    rw [List.drop_length] at cd
    exact .inl ⟨wk.stops H2 (g2.trans rl2.sub), cd _ G2 H2 (g1.trans g2) (rl2.backs rl1 g2) ⟨Z, rfl, n2.backs⟩⟩
/-- [x for x in an own list] -/
theorem i_cpy {j i : Nat} {Q : VK} (h : LE T K (.cpy j i) σ H Q) : tLc (iSeq K (tVar i)) (gName j) (fun _ H Q => Q true H) (tVar j) [j] σ H Q := by
  obtain ⟨F, G, ρ, hK, r, ev⟩ := h
  subst hK
  simp only [evE] at ev
  split at ev
  · rename_i xs hsl
    obtain ⟨hj, hl, ev⟩ := ev
    obtain ⟨a, h1, h2, h3, vs, h4, h5⟩ := r.ow i _ hsl
    refine ⟨.ref a, h1, .inl ⟨a, vs, rfl, .inl ⟨SqL.of h4, fun Z hZ => ?_⟩⟩⟩
    have ne : a ≠ Z := fun e => by rw [e, hZ] at h4; cases h4
    have w := walk_list (K := F.K) (a := a) (xs := vs)
    have hat : ∀ k, (upd H Z (.lst (vs.take k))) a = some (.lst vs) := fun k => by rw [upd_ne ne]; exact h4
    have el := h5.length
    refine ⟨fun k m H' => m = vs.length - k ∧ k ≤ vs.length ∧ H' = upd H Z (.lst (vs.take k)), ⟨vs.length, by simp, Nat.zero_le _, rfl⟩, ?_⟩
    rintro k m H' ⟨rfl, hk, rfl⟩
    by_cases hlt : k < vs.length
    · refine .inr ⟨w.goes k _ hlt (SqL.of (hat k)), fun H'' => H'' = upd H Z (.lst (vs.take (k + 1))), fun H'' e => ⟨_, by omega, rfl, hlt, e⟩, fun x H2 y => ?_⟩
      obtain ⟨rfl, e2⟩ := w.yields k _ x H2 hlt (SqL.of (hat k)) y
      have e2 : vs[k]? = some x := e2
      have hσ : j < (wipe σ [j]).length := by rw [wipe_length, r.len]; exact hj
      refine ⟨?_, ?_⟩
      · rw [wipe_eq (σ := wipe σ [j]) (by rw [List.length_set]) fun l hl => List.getElem?_set_ne fun e => hl (by simp [e]), wipe_wipe]
      · show if true = true then _ else _
        rw [if_pos rfl]
        refine ⟨x, List.getElem?_set_self hσ, vs.take k, upd_same, by rw [List.length_take]; omega, ?_⟩
        rw [upd_upd, List.take_succ, e2]
        rfl
    · have ek : k = vs.length := by omega
      subst ek
      refine .inl ⟨w.stops _ (SqL.of (hat _)), ?_⟩
      rw [List.take_length]
      exact ev _ G _ (Same.refl G) (r.grow (Gw.new r.sub hZ)) ⟨Z, rfl, r.nw hZ ⟨vs, upd_same, h5⟩⟩
  · exact ev.elim
/-- the keys of a locked dict, walked -/
theorem wk_keys {K : PySem.W.Frag} {d : Addr} {o : Obj} {kvs : List (Key × V)} {ds : List (D × D)} {G : Hp} (h : G d = some (.frz o (.dK kvs))) (q : RpK K G kvs ds) : WkD K (Itk d o kvs) (ds.map (·.1)) G := by
  have w := walk_keys (d := d) (o := o) (kvs := kvs)
  have e : (ds.map (·.1)).length = kvs.length := by rw [List.length_map, q.length]
  refine ⟨fun i H hi s => w.goes i H (by omega) (s _ _ h), fun H s => by rw [e]; exact w.stops H (s _ _ h), fun i H x H' hi s y => ?_⟩
  obtain ⟨e1, k, v, e2, rfl⟩ := w.yields i H x H' (by omega) (s _ _ h) y
  refine ⟨kD k, ?_, .inl ⟨e1, ?_⟩⟩
  · rw [q.keys, List.getElem?_map, e2]
    rfl
  · cases k with
    | inl i => exact .int i
    | inr z => exact .str z
theorem i_compkL (tm : T.Mono) {own : List Nat} {g : CG} {i : Nat} {c : CC} {e : CE} {Q : VK} {F : Fr} {G : Hp} {ρ : Sta} {d : Addr} {o : Obj} {kvs : List (Key × V)} (hg : gIn g own = true) (r : Rl F G H σ ρ) (hs : σ[i]? = some (some (.ref d))) (hd : G d = some (.frz o (.dK kvs)))
    (ev : evE T (.compk own g i c e) ρ fun r ρ' => ∀ v G' H', Same G G' → Rl F G' H' σ ρ' → RR F G' H' σ ρ' v r → Q v H') :
    tLc (iKeys (tVar i)) (LG F.K g) (LC T F.K c) (LE T F.K e) own σ H Q := by
  simp only [evE] at ev
  split at ev
  · rename_i ds hsl
    obtain ⟨v, h1, h2⟩ := r.fz i _ hsl
    rw [hs] at h1
    cases h1
    refine ⟨.ref d, hs, d, o, rfl, .inl ⟨kvs, r.sub _ _ hd, ?_⟩⟩
    cases h2 with
    | @dct _ kvs' _ q1 q2 =>
      have e : kvs' = kvs := by
        rcases q1 with q1 | ⟨o', q1⟩
        · rw [hd] at q1; cases q1
        · rw [hd] at q1; cases q1; rfl
      subst e
      exact comp_core tm hg (Same.refl G) r (wk_keys hd q2) ev
  · exact ev.elim
/-- the keys of a dict: it is locked meanwhile -/
theorem i_compk (tm : T.Mono) {own : List Nat} {g : CG} {i : Nat} {c : CC} {e : CE} {Q : VK} (hg : gIn g own = true) (h : LE T K (.compk own g i c e) σ H Q) :
    tLc (iKeys (tVar i)) (LG K g) (LC T K c) (LE T K e) own σ H Q ∨ tLockE (tLc (iKeys (tVar i)) (LG K g) (LC T K c) (LE T K e) own) σ H Q := by
  obtain ⟨F, G, ρ, hK, r, ev⟩ := h
  subst hK
  have ev' := ev
  simp only [evE] at ev
  split at ev
  · rename_i ds hsl
    clear ev
    obtain ⟨v, h1, h2⟩ := r.fz i _ hsl
    cases h2 with
    | @dct d kvs _ q1 q2 =>
      rcases q1 with q1 | ⟨o, q1⟩
      · refine .inr ⟨d, .dK kvs, r.sub _ _ q1, True.intro, fun od => ?_⟩
        have lk : Wk G (upd G d (.frz od (.dK kvs))) := fun a u hu => by
          by_cases ha : a = d
          · subst ha
            rw [q1] at hu
            cases hu
            exact .inr ⟨kvs, .inl rfl, .inr ⟨od, upd_same⟩⟩
          · exact .inl (by rw [upd_ne ha]; exact hu)
        have sm : Same (upd G d (.frz od (.dK kvs))) (upd H d (.frz od (.dK kvs))) := fun a u hu => by
          by_cases ha : a = d
          · subst ha
            rw [upd_same] at hu ⊢
            exact hu
          · rw [upd_ne ha] at hu ⊢
            exact r.sub _ _ hu
        have r1 := r.wk lk sm fun a ha => by
          have hne : a ≠ d := fun e => by rw [e, q1] at ha; cases ha
          exact ⟨by rw [upd_ne hne]; exact ha, by rw [upd_ne hne]⟩
        refine i_compkL tm hg r1 h1 upd_same (evE_mono tm _ (fun r2 ρ2 ev v2 G2 H2 g2 rl2 rr2 => ?_) ev')
        have hd2 : G2 d = some (.frz od (.dK kvs)) := g2 _ _ upd_same
        refine ⟨rl2.sub _ _ hd2, ?_⟩
        have ul : Wk G2 (upd G2 d (.dK kvs)) := fun a u hu => by
          by_cases ha : a = d
          · subst ha
            rw [hd2] at hu
            cases hu
            exact .inr ⟨kvs, .inr ⟨od, rfl⟩, .inl upd_same⟩
          · exact .inl (by rw [upd_ne ha]; exact hu)
        have sm2 : Same (upd G2 d (.dK kvs)) (upd H2 d (.dK kvs)) := fun a u hu => by
          by_cases ha : a = d
          · subst ha
            rw [upd_same] at hu ⊢
            exact hu
          · rw [upd_ne ha] at hu ⊢
            exact rl2.sub _ _ hu
        have off : ∀ a, G2 a = none → (upd G2 d (.dK kvs)) a = none ∧ (upd H2 d (.dK kvs)) a = H2 a := fun a ha => by
          have hne : a ≠ d := fun e => by rw [e, hd2] at ha; cases ha
          exact ⟨by rw [upd_ne hne]; exact ha, by rw [upd_ne hne]⟩
        have r3 := rl2.wk ul sm2 off
        refine ev v2 _ _ (fun a u hu => ?_) r3 ?_
        · by_cases ha : a = d
          · subst ha
            rw [q1] at hu
            cases hu
            exact upd_same
          · rw [upd_ne ha]
            exact g2 _ _ (by rw [upd_ne ha]; exact hu)
        · cases r2 with
          | fz x => exact Rp.wk ul rr2
          | al j => exact rr2
          | ow x =>
            obtain ⟨a, e, n⟩ := rr2
            exact ⟨a, e, n.wk ul (off a n.gn).1 (off a n.gn).2⟩
      · exact .inl (i_compkL tm hg r h1 q1 ev')
  · exact ev.elim
end
end DI

set_option Elab.async false
set_option linter.all false
set_option autoImplicit false
set_option maxRecDepth 100000
set_option maxHeartbeats 2000000
/-! DI3f: expressions of the text that pass the check are read as the small language's. -/
namespace DI
open PySem PySem.Spec PyProof.Rows L2

theorem CxOk.blk {T : Tb} {X : Cx} {S : SC} (c : CxOk T X S) {scope : Scope} (hk : scope.kind = .function) (s : Shared) (H : Hp) (C : Addr) (cl : List (Str × Addr)) (fp : List Addr) : CxOk T (X.blk s H scope (compEnvC scope cl C X.env) fp) (S.blk scope) where
  good := ⟨c.good.calm, c.good.units, c.good.sys, c.good.un2⟩
  hW := c.hW
  hN := c.hN
  hsc := by
    show relabel scope X.env = relS scope S.sc
    rw [← c.hsc]
    rfl
  hfn := rfl
  kind := hk
  nd := c.nd
  tm := c.tm
  bfree := c.bfree
  fns := c.fns
  gd := c.gd
  xfns := c.xfns
  hrd := fun h e => by cases e
  mke := fun e => by cases e
  gds := c.gds
  gls := c.gls
  pass := PassesOwn.never
theorem CxOk.lam {T : Tb} {X : Cx} {S : SC} (c : CxOk T X S) {scope : Scope} (L : LamX.LamS X.env.scope scope) {A : Around} {outer : List PySem.Env} {s : Shared} {H : Hp} {E : XK} {f c' : Addr} {k : Nat} (hr : Room k (A.deeper (LamX.lamEnv X scope s.heap.objs.size f c'))) :
    CxOk T (LamX.lamCx X A outer s H E scope f c') (S.lam scope) where
  good := ⟨rfl, by have := hr.un; show (A.deeper _).units + 65 < cLine; omega, c.good.sys, by have := hr.un; show (A.deeper _).units + 75 < cLine; omega⟩
  hW := c.hW
  hN := c.hN
  hsc := rfl
  hfn := rfl
  kind := L.kind
  nd := c.nd
  tm := c.tm
  bfree := c.bfree
  fns := fun k hk => absurd hk (Nat.not_lt_zero k)
  gd := fun e => by cases e
  xfns := fun k hk => absurd hk (Nat.not_lt_zero k)
  hrd := fun h e => by cases e
  mke := fun e => by cases e
  gds := fun k hk => absurd hk (Nat.not_lt_zero k)
  gls := fun k hk => absurd hk (Nat.not_lt_zero k)
  pass := passes_of rfl
theorem passes_lam {X : Cx} {A : Around} {outer : List PySem.Env} {s : Shared} {H : Hp} {E : XK} {scope : Scope} {f c' : Addr} : Passes (L2.CX X.prog X.w) (LamX.lamCx X A outer s H E scope f c') E :=
  passes_call (W := fun cls d _ H => E cls d H) (takes_of (E := E) rfl rfl rfl rfl) fun _ _ _ _ h => h
theorem ownOf_snd (N : List Str) : ∀ is : List Nat, (ownOf N is).map (·.2) = is
  | [] => rfl
  | i :: is => by
    show i :: (ownOf N is).map (·.2) = i :: is
    rw [ownOf_snd N is]
section
variable {T : Tb} {X : Cx} {S : SC}
theorem con_of {d : D} {c : Const} {k : Nat} {pos : Pos} (h : conB d c = true) : PE X (.Constant c k pos) (LE T X.K (.con d)) := by
  cases d with
  | non => cases c <;> first | (cases h; done) | exact pe_imp pe_non fun _ _ _ => i_con fun _ => .non
  | bl b =>
    cases c with
    | bool b' =>
      have e : b = b' := by simpa [conB] using h
      subst e
      exact pe_imp pe_bl fun _ _ _ => i_con fun _ => .bl b
    | _ => cases h
  | int i =>
    cases c with
    | int j =>
      have e : i = j := by simpa [conB] using h
      subst e
      exact pe_imp pe_int fun _ _ _ => i_con fun _ => .int i
    | _ => cases h
  | str x =>
    cases c with
    | str y =>
      have e : x = y := by simpa [conB] using h
      subst e
      exact pe_imp pe_str fun _ _ _ => i_con fun _ => .str x
    | _ => cases h
  | _ => cases h
theorem mem_bnames (b : B1) : b.name ∈ bnames := by
  cases b <;> decide +kernel
theorem boot_B : ∀ b : B1, bootBuiltins b.name = some b.val.value := by
  intro b
  cases b <;> decide +kernel
theorem name_ne (b : B1) : b.name ≠ "__name__" ∧ (b.name == ("__debug__" : Str)) = false := by
  cases b <;> decide +kernel
/-- a built-in call by its name -/
theorem bi_of (c : CxOk T X S) {b : B1} {y : Expr} {ys : List Expr} {p pos : Pos} {t : TA} (hgu : b.isRepr = true → X.A.guards = some []) (hg : Gl X b.name) (ha : PA X (y :: ys) t) (hs : starEach (y :: ys) X.env = (false, eval y X.env) :: starEach ys X.env)
    (hpl : (backTo pos (starEach ys X.env)).any (·.1) = false) : PE X (.Call (.Name b.name p) (y :: ys) [] pos) (tCB (rB b X.K) t) := by
  have hm := c.bfree _ (mem_bnames b)
  have hr := callr c.good b hgu
  have hv := boot_B b
  obtain ⟨h1, h2⟩ := name_ne b
  cases e : b.val with
  | bi id => rw [e] at hr hv; exact pe_callB hr hg hm hv ha h1 h2 hs hpl
  | ty id => rw [e] at hr hv; exact pe_callTy hr hg hm hv ha h1 h2 hs hpl
theorem base_of {o : Expr} {n : Str} {env : PySem.Env} {m : Sem Value} (h : baseOk o = true) : attributeBase o n env m = m := by
  cases o <;> first | rfl | cases h
theorem base2_of {o : Expr} {n : Str} {env : PySem.Env} {m : Sem Value} (h : baseOk2 o = true) : attributeBase o n env m = m := by
  cases o with
  | Call f as ks p => cases as with
    | nil => cases h
    | cons a as => cases f <;> rfl
  | _ => first | rfl | cases h
theorem pe_either {e : Expr} {t t' : TE} (h : PE X e t) (h' : PE X e t') : PE X e (fun σ H Q => t σ H Q ∨ t' σ H Q) := ⟨fun pins s σ H Q I q => q.elim (h.run pins s σ H Q I) (h'.run pins s σ H Q I)⟩
theorem ty_boot : ∀ n ∈ tyNames, Str.ofString n ∈ bnames ∧ bootBuiltins (Str.ofString n) = some (.type n) ∧ Str.ofString n ≠ "__name__" ∧ (Str.ofString n == ("__debug__" : Str)) = false := by
  decide +kernel
theorem meth_of {m : N1} {o y : Expr} {apos cpos : Pos} {to te : TE} (hb : baseOk o = true) (ho : PE X o to) (he : PE X y te) (hs : starEach [y] X.env = (false, eval y X.env) :: starEach [] X.env) (hline : (apos.endLine == cpos.line) = true) :
    PE X (.Call (.Attribute o m.name apos) [y] [] cpos) (tM1 (rN m) to te) := by
  cases m with
  | split => exact pe_split ho he hs (base_of hb) hline
theorem sset_of (c : CxOk T X S) {y : Expr} {p1 p2 p3 p4 : Pos} {te : TE} (h1 : Gl X "sorted") (h2 : Gl X "set") (he : PE X y te) (hs : starEach [y] X.env = (false, eval y X.env) :: starEach [] X.env) :
    PE X (.Call (.Name "sorted" p1) [.Call (.Name "set" p2) [y] [] p3] [] p4) (tCB (rSortedSet X.w) (tCons (tCB (rSetLI X.w X.K) (tCons te tNil)) tNil)) := by
  have hm1 := c.bfree "sorted" (by decide +kernel)
  have hm2 := c.bfree "set" (by decide +kernel)
  refine pe_callB (cr_sortedSet c.good.calm) h1 hm1 (by decide +kernel) (pa_cons ?_ pa_nil rfl) (by decide +kernel) (by decide +kernel) rfl rfl
  exact pe_callTy (cr_setLI c.good.calm) h2 hm2 (by decide +kernel) (pa_cons he pa_nil hs) (by decide +kernel) (by decide +kernel) hs rfl
/-- a method that changes the own list in a slot -/
theorem mut1_of {m : M2} {o y : Expr} {ys : List Expr} {apos cpos : Pos} {to : TE} {t : TA} (ha : m.args = true) (ho : PE X o to) (hp : PA X (y :: ys) t)
    (hbase : attributeBase o m.name X.env (eval o X.env) = eval o X.env)
    (hfew : ((backTo cpos (starEach (y :: ys) X.env)).all (fun x => !x.1) && (backToKw cpos (keywordEach [] X.env)).all (fun x => x.1.isSome) && decide ((y :: ys).length + ([] : List Keyword).length + (if ([] : List Keyword).isEmpty then 0 else 1) < 30)) = true)
    (hline : (apos.endLine == cpos.line) = true) (hs : starEach (y :: ys) X.env = (false, eval y X.env) :: starEach ys X.env) (hpl : (backTo cpos (starEach ys X.env)).any (·.1) = false) :
    PE X (.Call (.Attribute o m.name apos) (y :: ys) [] cpos) (tBM X.K "list" (rM m) to t) := by
  cases m with
  | append => exact pe_bm PySem.F.plainAttrs_list PySem.F.slot_list_append PySem.F.type_list_append mt_append ho hp hbase hfew hline hs hpl
  | extend => exact pe_bm PySem.F.plainAttrs_list PySem.F.slot_list_extend PySem.F.type_list_extend mt_extend ho hp hbase hfew hline hs hpl
  | pop => cases ha
  | popAt => exact pe_bm PySem.F.plainAttrs_list PySem.F.slot_list_pop PySem.F.type_list_pop mt_popAt ho hp hbase hfew hline hs hpl
  | insert => exact pe_bm PySem.F.plainAttrs_list PySem.F.slot_list_insert PySem.F.type_list_insert mt_insert ho hp hbase hfew hline hs hpl
theorem mut0_of {m : M2} {o : Expr} {apos cpos : Pos} {to : TE} (ha : m.args = false) (ho : PE X o to) (hbase : attributeBase o m.name X.env (eval o X.env) = eval o X.env) (hline : (apos.endLine == cpos.line) = true) :
    PE X (.Call (.Attribute o m.name apos) [] [] cpos) (tBM0 X.K "list" (rM m) to) := by
  cases m with
  | pop => exact pe_bm0 PySem.F.plainAttrs_list PySem.F.slot_list_pop PySem.F.type_list_pop mt_pop ho hbase hline
  | _ => cases ha
theorem chkA_nil {cs : CA} (h : chkA S cs [] = true) : cs = .nil := by
  cases cs with
  | star c cs => simp [chkA] at h
  | nil => rfl
  | cons c cs => simp [chkA] at h
theorem blkC_kind {N : List Str} {sc scope : Scope} {own : List (Str × Nat)} (h : blkC N sc scope own = true) : scope.kind = .function := (blkOk_by h).kind
end
theorem tail_star {S : SC} {cs : CA} {y : Expr} {ys : List Expr} (h : chkA S cs (y :: ys) = true) (env : PySem.Env) (pos : Pos) : (backTo pos (starEach ys env)).any (·.1) = false := by
  cases cs with
  | nil => simp [chkA] at h
  | star c cs => simp [chkA] at h
  | cons c cs =>
    simp only [chkA, Bool.and_eq_true] at h
    exact (chkA_star h.2 env pos).1
theorem chkA_len1 {S : SC} {cs : CA} {a : Expr} (h : chkA S cs [a] = true) : ∃ c, cs = .cons c .nil := by
  cases cs with
  | nil => simp [chkA] at h
  | star c cs => simp [chkA] at h
  | cons c cs =>
    simp only [chkA, Bool.and_eq_true] at h
    rw [chkA_nil h.2]
    exact ⟨c, rfl⟩
theorem chkA_len2 {S : SC} {cs : CA} {a b : Expr} (h : chkA S cs [a, b] = true) : ∃ c c2, cs = .cons c (.cons c2 .nil) := by
  cases cs with
  | nil => simp [chkA] at h
  | star c cs => simp [chkA] at h
  | cons c cs =>
    simp only [chkA, Bool.and_eq_true] at h
    obtain ⟨c2, rfl⟩ := chkA_len1 h.2
    exact ⟨c, c2, rfl⟩
theorem chkA_len3 {S : SC} {cs : CA} {a b d : Expr} (h : chkA S cs [a, b, d] = true) : ∃ c c2 c3, cs = .cons c (.cons c2 (.cons c3 .nil)) := by
  cases cs with
  | nil => simp [chkA] at h
  | star c cs => simp [chkA] at h
  | cons c cs =>
    simp only [chkA, Bool.and_eq_true] at h
    obtain ⟨c2, c3, rfl⟩ := chkA_len2 h.2
    exact ⟨c, c2, c3, rfl⟩
theorem bool_of {S : SC} {c : CT} {op : BoolOp} {es : List Expr} {p : Pos} (h : chkT S c (.BoolOp op es p) = true) : ∃ a b, c = .and a b ∨ c = .or a b := by
  cases c with
  | cmp o a b => simp [chkT] at h
  | chn o o' a b c => simp [chkT] at h
  | and a b => exact ⟨a, b, .inl rfl⟩
  | or a b => exact ⟨a, b, .inr rfl⟩
  | not a => simp [chkT] at h
  | gin a b c => simp [chkT] at h
  | val a => simp [chkT, plainT] at h
mutual
theorem sE {T : Tb} : ∀ (c : CE) {X : Cx} {S : SC} {e : Expr}, CxOk T X S → chkE S c e = true → PE X e (LE T X.K c)
  | .var i, X, S, e, k, h => by
    simp only [chkE] at h
    split at h
    · exact pe_imp (name_of k h) fun _ _ _ => i_var
    · cases h
  | .con d, X, S, e, k, h => by
    simp only [chkE] at h
    split at h
    · exact con_of h
    · cases h
  | .glo n, X, S, e, k, h => by
    simp only [chkE] at h
    split at h
    · simp only [Bool.and_eq_true, decide_eq_true_eq, Bool.not_eq_true'] at h
      obtain ⟨⟨⟨h1, h2⟩, h3⟩, h4⟩ := h
      obtain ⟨v, u, q1, q2, q3⟩ := k.gls n h1
      rw [h2] at q1
      exact pe_imp (pe_glob (glo_of k h3) q1 q2 h4) fun _ _ _ => i_glo q3
    · cases h
  | .op2 o a b, X, S, e, k, h => by
    simp only [chkE] at h
    split at h
    · simp only [Bool.and_eq_true] at h
      exact pe_imp (pe_op (opr_bin (isBin_of h.1.1)) (sE a k h.1.2) (sE b k h.2)) fun _ _ _ z => by (have q := i_op2 k.tm z; rw [k.hW] at q; exact q)
    · simp only [Bool.and_eq_true, Bool.not_eq_true'] at h
      exact pe_imp (pe_cmpR (opr_cmp k.good.units (isCmp_of h.1.1.1)) (sE a k h.1.1.2) (sE b k h.1.2) h.2) fun _ _ _ z => by (have q := i_op2 k.tm z; rw [k.hW] at q; exact q)
    · simp only [Bool.and_eq_true] at h
      exact pe_imp (pe_ix (opr_ix k.good.units (isIdx_of h.1.1.1)) (sE a k h.1.1.2) (sE b k h.1.2) (ix_of h.2)) fun _ _ _ z => by (have q := i_op2 k.tm z; rw [k.hW] at q; exact q)
    · cases h
  | .chn o o' a b c, X, S, e, k, h => by
    simp only [chkE] at h
    split at h
    · simp only [Bool.and_eq_true, Bool.not_eq_true'] at h
      obtain ⟨⟨⟨⟨⟨h1, h2⟩, h3⟩, h4⟩, h5⟩, h6⟩ := h
      exact pe_imp (pe_chain (opr_cmp k.good.units (isCmp_of h1)) (opr_cmp k.good.units (isCmp_of h2)) (sE a k h4) (sE b k h5) (sE c k h6) (by simpa [lastMarks] using h3)) fun _ _ _ z => by (have q := i_chn k.tm z; rw [k.hW] at q; exact q)
    · cases h
  | .op1 o a, X, S, e, k, h => by
    simp only [chkE] at h
    split at h
    · cases o
      exact pe_imp (pe_un un_neg (sE a k h)) fun _ _ _ => i_neg k.tm
    · cases h
  | .and a b, X, S, e, k, h => by
    simp only [chkE] at h
    split at h
    · simp only [Bool.and_eq_true] at h
      exact pe_imp (pe_and (sE a k h.1) (pe_one (sE b k h.2))) fun _ _ _ => i_and k.tm
    · simp only [Bool.and_eq_true] at h
      exact pe_imp (pe_and (sE a k h.1) (sE b k h.2)) fun _ _ _ => i_and k.tm
    · cases h
  | .or a b, X, S, e, k, h => by
    simp only [chkE] at h
    split at h
    · simp only [Bool.and_eq_true] at h
      exact pe_imp (pe_or (sE a k h.1) (pe_one (sE b k h.2))) fun _ _ _ => i_or k.tm
    · simp only [Bool.and_eq_true] at h
      exact pe_imp (pe_or (sE a k h.1) (sE b k h.2)) fun _ _ _ => i_or k.tm
    · cases h
  | .not a, X, S, e, k, h => by
    simp only [chkE] at h
    split at h
    · exact pe_imp (pe_not (sE a k h)) fun _ _ _ => i_not k.tm
    · cases h
  | .ifx t a b, X, S, e, k, h => by
    simp only [chkE] at h
    split at h
    · simp only [Bool.and_eq_true] at h
      exact pe_imp (pe_ifExp (sT t k h.1.1) (sE a k h.1.2) (sE b k h.2)) fun _ _ _ => i_ifx k.tm
    · cases h
  | .lst es, X, S, e, k, h => by
    simp only [chkE] at h
    split at h
    · exact pe_imp (pe_lst (sDsp es k h)) fun _ _ _ => i_lst k.tm
    · cases h
  | .tup es, X, S, e, k, h => by
    simp only [chkE] at h
    split at h
    · exact pe_imp (pe_tup (sDsp es k h)) fun _ _ _ => i_tup k.tm
    · cases h
  | .slc a lo hi, X, S, e, k, h => by
    simp only [chkE] at h
    split at h
    · simp only [Bool.and_eq_true] at h
      exact pe_imp (pe_slice (sl_list.or (sl_tupA.or sl_str)) (sE a k h.1.1) (sO lo k h.1.2) (sO hi k h.2)) fun _ _ _ => i_slc k.tm
    · cases h
  | .bi b es, X, S, e, k, h => by
    simp only [chkE] at h
    split at h
    · simp only [Bool.and_eq_true, decide_eq_true_eq] at h
      obtain ⟨⟨⟨h1, h2⟩, h3⟩, h4⟩ := h
      subst h1
      have hgu : b.isRepr = true → X.A.guards = some [] := fun z => k.gd (by rw [z] at h4; simpa using h4)
      exact pe_imp (bi_of k hgu (glo_of k h2) (sA es k h3) (star_of (chkA_head h3)) (tail_star h3 X.env _)) fun _ _ _ => i_bi k.tm
    · cases h
  | .meth m a y, X, S, e, k, h => by
    simp only [chkE] at h
    split at h
    · simp only [Bool.and_eq_true, decide_eq_true_eq] at h
      obtain ⟨⟨⟨⟨⟨h1, h2⟩, h3⟩, h4⟩, h5⟩, h6⟩ := h
      subst h1
      exact pe_imp (meth_of h2 (sE a k h5) (sE y k h6) (star_of h4) h3) fun _ _ _ => i_meth k.tm
    · cases h
  | .sset y, X, S, e, k, h => by
    simp only [chkE] at h
    split at h
    · simp only [Bool.and_eq_true, decide_eq_true_eq] at h
      obtain ⟨⟨⟨⟨⟨h1, h2⟩, h3⟩, h4⟩, h5⟩, h6⟩ := h
      subst h1
      subst h2
      exact pe_imp (sset_of k (glo_of k h3) (glo_of k h4) (sE y k h6) (star_of h5)) fun _ _ _ => i_sset k.tm
    · cases h
  | .dn1 a b, X, S, e, k, h => by
    simp only [chkE] at h
    split at h
    · simp only [Bool.and_eq_true] at h
      exact pe_imp (pe_dn1 k.good.units (sE a k h.1) (sE b k h.2)) fun _ _ _ z => by
        have q := i_dn1 k.tm z
        rw [k.hW] at q
        exact q
    · cases h
  | .tyc n, X, S, e, k, h => by
    simp only [chkE] at h
    split at h
    · simp only [Bool.and_eq_true, decide_eq_true_eq] at h
      obtain ⟨⟨h1, h2⟩, h3⟩ := h
      subst h1
      obtain ⟨q1, q2, q3, q4⟩ := ty_boot n h2
      exact pe_imp (pe_bltn (v := .ty n) (glo_of k h3) (k.bfree _ q1) q2 rfl q3 q4) fun _ _ _ => i_tyc
    · cases h
  | .dk0, X, S, e, k, h => by
    simp only [chkE] at h
    split at h
    · exact pe_imp pe_dnewK fun _ _ _ => i_dk0
    · cases h
  | .dk1 x v, X, S, e, k, h => by
    simp only [chkE] at h
    split at h
    · simp only [Bool.and_eq_true, decide_eq_true_eq] at h
      obtain ⟨h1, h2⟩ := h
      subst h1
      exact pe_imp (pe_disp (pps_cons pe_str (sE v k h2) pps_nil) rfl rfl (by simp) (by simp)) fun _ _ _ => i_dk1 k.tm
    · cases h
  | .dks fz xs es, X, S, e, k, h => by
    simp only [chkE] at h
    split at h
    · rw [Bool.or_eq_true] at h
      rcases h with h | h
      · simp only [Bool.and_eq_true, List.isEmpty_iff] at h
        obtain ⟨⟨⟨⟨h1, h2⟩, h3⟩, h4⟩, h5⟩ := h
        subst h1 h2 h3 h4
        cases es with
        | nil => exact pe_imp pe_dnewK fun _ _ _ => i_dki0
        | cons _ _ => cases h5
        | star _ _ => cases h5
      · simp only [Bool.and_eq_true, Bool.not_eq_true', decide_eq_true_eq] at h
        obtain ⟨⟨h1, h2⟩, h3⟩ := h
        rename_i ks vs pos
        have q := sKV es (pos := pos) k h2
        exact pe_imp (pe_disp q.1 q.2.2.1 q.2.2.2.1 (fun z => by rw [z] at h1; cases h1) h3) fun _ _ _ => i_dks k.tm (by rw [q.2.2.2.2]; exact h3) q.2.1
    · cases h
  | .items i, X, S, e, k, h => by
    simp only [chkE] at h
    split at h
    · simp only [Bool.and_eq_true, decide_eq_true_eq] at h
      obtain ⟨⟨⟨⟨h1, h2⟩, h3⟩, h4⟩, h5⟩ := h
      subst h1 h2
      exact pe_imp (LiI.pe_listItems k.good.calm (name_of k h5) (glo_of k h3) (k.bfree _ (by decide)) (by decide +kernel) rfl h4) fun _ _ _ => i_items
    · cases h
  | .heard n es, X, S, e, k, h => by
    simp only [chkE] at h
    split at h
    · simp only [Bool.and_eq_true, decide_eq_true_eq, Bool.not_eq_true'] at h
      obtain ⟨⟨⟨⟨⟨⟨⟨⟨⟨h1, h2⟩, h3⟩, h4⟩, h5⟩, h6⟩, h7⟩, h8⟩, h9⟩, h10⟩ := h
      obtain ⟨f, fd, ps, lv, q1, q2, q3, q4, q5⟩ := k.xfns n h4
      rw [h5] at q1
      have L := LamX.lamS_by h2
      rw [← k.hsc] at L
      refine pe_imp (k.hrd _ h1 (t := fun E => tCall (liftSpX X.K T.cn T.fx (T.xfn n)) [] E (LA T X.K es)) q4 L h3 fun A outer s H E f' c' hr => ?_) fun _ _ _ => i_heard k.tm
      have kl := k.lam L hr (E := E) (outer := outer) (H := H)
      exact pe_call q5 hr (glo_of kl h6) q1 q2 q3 .nil passes_lam (sA es kl h10) h7 (star_of (chkA_head h10)) (tail_star h10 _ _)
    · cases h
  | .upper a, X, S, e, k, h => by
    simp only [chkE] at h
    split at h
    · simp only [Bool.and_eq_true, decide_eq_true_eq] at h
      obtain ⟨⟨⟨h1, h2⟩, h3⟩, h4⟩ := h
      subst h1
      exact pe_imp (pe_upper (sE a k h4) (base2_of h2) h3) fun _ _ _ => i_upper k.tm
    · cases h
  | .join a y, X, S, e, k, h => by
    simp only [chkE] at h
    split at h
    · simp only [Bool.and_eq_true, decide_eq_true_eq] at h
      obtain ⟨⟨⟨⟨⟨h1, h2⟩, h3⟩, h4⟩, h5⟩, h6⟩ := h
      subst h1
      exact pe_imp (pe_join (sE a k h5) (sE y k h6) (star_of h4) (base_of h2) h3) fun _ _ _ => i_join k.tm
    · cases h
  | .dget a y, X, S, e, k, h => by
    simp only [chkE] at h
    split at h
    · simp only [Bool.and_eq_true, decide_eq_true_eq] at h
      obtain ⟨⟨⟨⟨⟨h1, h2⟩, h3⟩, h4⟩, h5⟩, h6⟩ := h
      subst h1
      exact pe_imp (pe_dget1 (by have := k.good.units; omega) (sE a k h5) (sE y k h6) ⟨base_of h2, by rw [star_of h4]; rfl, h3, by rw [star_of h4]; rfl⟩) fun _ _ _ => i_dget k.tm
    · cases h
  | .dgetd a y z, X, S, e, k, h => by
    simp only [chkE] at h
    split at h
    · simp only [Bool.and_eq_true, decide_eq_true_eq] at h
      obtain ⟨⟨⟨⟨⟨⟨⟨h1, h2⟩, h3⟩, h4⟩, h4'⟩, h5⟩, h6⟩, h7⟩ := h
      subst h1
      exact pe_imp (pe_dget2 (by have := k.good.units; omega) (sE a k h5) (sE y k h6) (sE z k h7) ⟨base_of h2, by rw [star_of h4, star_of h4']; rfl, h3, by rw [star_of h4, star_of h4']; rfl⟩) fun _ _ _ => i_dgetd k.tm
    · cases h
  | .gix n y, X, S, e, k, h => by
    simp only [chkE] at h
    split at h
    · simp only [Bool.and_eq_true, decide_eq_true_eq, Bool.not_eq_true'] at h
      obtain ⟨⟨⟨⟨⟨h1, h2⟩, h3⟩, h4⟩, h5⟩, h6⟩ := h
      subst h2
      obtain ⟨d, es, m, q1, q2, q3⟩ := k.gds n h1
      exact pe_imp (pe_ix (ix_gix q2 q3) (pe_glob (v := .ref d) (glo_of k h3) q1 rfl h4) (sE y k h5) (ix_of h6)) fun _ _ _ => i_gix k.tm
    · cases h
  | .sortn y, X, S, e, k, h => by
    simp only [chkE] at h
    split at h
    · simp only [Bool.and_eq_true, decide_eq_true_eq] at h
      obtain ⟨⟨⟨h1, h2⟩, h3⟩, h4⟩ := h
      subst h1
      exact pe_imp (pe_callB (cr_sortedN k.good.calm (by have := k.good.un2; omega) k.good.sys) (glo_of k h2) (k.bfree _ (by decide +kernel)) (by decide +kernel) (pa_cons (sE y k h4) pa_nil (star_of h3)) (by decide +kernel) (by decide +kernel) (star_of h3) rfl) fun _ _ _ z => by
        have q := i_sortn k.tm z
        rw [k.hW] at q
        exact q
    · cases h
  | .dcomp own g it a y, X, S, e, k, h => by
    simp only [chkE] at h
    split at h
    · rename_i cpos
      simp only [Bool.and_eq_true] at h
      obtain ⟨⟨⟨⟨⟨⟨h1, h2⟩, h3⟩, h4⟩, h5⟩, h6⟩, h7⟩ := h
      have hk := blkC_kind h1
      have q := pe_dg (kdN X) (own := ownOf S.N own) (pos := cpos) (wi := LI T X.K it) (g := LG X.K g) (tk := LE T X.K a) (tv := LE T X.K y) k.good.calm k.nd k.good.un2 (sI it k h2) (by rw [k.hN, k.hsc]; exact blkOk_by h1) (fun s H C cl fp => sG (k.blk hk s H C cl fp) h3) (fun s H C cl fp => sE a (k.blk hk s H C cl fp) h4) (fun s H C cl fp => sE y (k.blk hk s H C cl fp) h5) (set_of h6 X.env)
      rw [ownOf_snd] at q
      exact pe_imp q fun _ _ _ z => i_dcomp k.hW k.tm h7 z
    · cases h
  | .dn0, X, S, e, k, h => by
    simp only [chkE] at h
    split at h
    · exact pe_imp pe_dn0 fun _ _ _ z => by
        have q := i_dn0 z
        rw [k.hW] at q
        exact q
    · cases h
  | .callS n es, X, S, e, k, h => by
    simp only [chkE] at h
    split at h
    · simp only [Bool.and_eq_true, decide_eq_true_eq, Bool.not_eq_true'] at h
      obtain ⟨⟨⟨⟨⟨h1, h2⟩, h3⟩, h4⟩, h5⟩, h6⟩ := h
      obtain ⟨f, fd, ps, lv, q1, q2, q3, q4, q5⟩ := k.fns n h1
      rw [h2] at q1
      have hgu : S.fg n = true → X.A.guards = some [] := fun z => k.gd (by rw [z] at h6; simpa using h6)
      exact pe_imp (pe_callG q5 hgu q4 (glo_of k h3) q1 q2 q3 (sA es k h5) h4 (star_of (chkA_head h5)) (tail_star h5 X.env _)) fun _ _ _ => i_callS k.tm
    · cases h
  | .cnt a y, X, S, e, k, h => by
    simp only [chkE] at h
    split at h
    · rename_i cpos
      simp only [Bool.and_eq_true, decide_eq_true_eq] at h
      obtain ⟨⟨⟨⟨⟨h1, h2⟩, h3⟩, h4⟩, h5⟩, h6⟩ := h
      subst h1
      have hs := star_of (es := []) (env := X.env) h4
      have hf : ∀ pos, (backTo pos (starEach [_] X.env)).all (fun x => !x.1) = true := fun pos => by rw [hs]; rfl
      exact pe_imp (pe_bm PySem.F.plainAttrs_list PySem.F.slot_list_count (by kernel_rfl) (mt_cnt k.good.units) (sE a k h5) (pa_cons (sE y k h6) pa_nil hs) (base2_of h2) (by rw [hf]; simp [keywordEach, backToKw]) h3 hs rfl) fun _ _ _ => i_cnt k.tm
    · cases h
  | .cpy j i, X, S, e, k, h => by
    simp only [chkE] at h
    split at h
    · rename_i z zpos x xpos y npos scope cpos
      simp only [Bool.and_eq_true] at h
      obtain ⟨⟨⟨h1, h2⟩, h3⟩, h4⟩ := h
      have hk := blkC_kind h1
      have q := pe_lc (own := ownOf S.N [j]) (pos := cpos) (ifs := []) (wi := iSeq X.K (tVar i)) (g := gName j) (tt := fun _ H Q => Q true H) (te := tVar j) k.good.calm k.nd (pi_seq (name_of (pos := npos) k h2)) (by rw [k.hN, k.hsc]; exact blkOk_by h1) (fun s H C cl fp => tgt_of (pos := xpos) (k.blk hk s H C cl fp) h3) (fun s H C cl fp => pts_nil) (fun s H C cl fp => name_of (pos := zpos) (k.blk hk s H C cl fp) h4) (set_of rfl X.env)
      rw [ownOf_snd] at q
      exact pe_imp q fun _ _ _ => i_cpy
    · cases h
  | .compk own g i t c, X, S, e, k, h => by
    simp only [chkE] at h
    split at h
    · rename_i npos ifs_ sc_ cpos
      simp only [Bool.and_eq_true] at h
      obtain ⟨⟨⟨⟨⟨h1, h2⟩, h3⟩, h4⟩, h5⟩, h7⟩ := h
      have hk := blkC_kind h1
      have q := pe_lc (own := ownOf S.N own) (pos := cpos) (wi := iKeys (tVar i)) (g := LG X.K g) (tt := LC T X.K t) (te := LE T X.K c) k.good.calm k.nd (pi_keys (name_of (pos := npos) k h2)) (by rw [k.hN, k.hsc]; exact blkOk_by h1) (fun s H C cl fp => sG (k.blk hk s H C cl fp) h3) (fun s H C cl fp => sC t (k.blk hk s H C cl fp) h4) (fun s H C cl fp => sE c (k.blk hk s H C cl fp) h5) (set_of rfl X.env)
      rw [ownOf_snd] at q
      exact pe_imp (pe_either q (pe_lock q)) fun _ _ _ => i_compk k.tm h7
    · cases h
  | .mut m i es, X, S, e, k, h => by
    simp only [chkE] at h
    split at h
    · rename_i ys cpos
      simp only [Bool.and_eq_true, decide_eq_true_eq] at h
      obtain ⟨⟨⟨⟨h1, h2⟩, h3⟩, h4⟩, h5⟩ := h
      subst h1
      cases ys with
      | nil =>
        have e := chkA_nil h5
        subst e
        exact pe_imp (mut0_of (by simpa using h4) (name_of k h2) rfl h3) fun _ _ _ => i_mut0 k.tm
      | cons y ys =>
        simp only [Bool.and_eq_true, decide_eq_true_eq] at h4
        have hs := star_of (es := ys) (env := X.env) (chkA_head h5)
        have hf := (chkA_star h5 X.env cpos).2
        exact pe_imp (mut1_of h4.1 (name_of k h2) (sK es k h5) rfl (by rw [hf]; simp [keywordEach, backToKw]; simpa using h4.2) h3 hs (tail_star h5 X.env _)) fun _ _ _ => i_mut1 k.tm
    · cases h
  | .call n es, X, S, e, k, h => by
    simp only [chkE] at h
    split at h
    · simp only [Bool.and_eq_true, decide_eq_true_eq, Bool.not_eq_true'] at h
      obtain ⟨⟨⟨⟨⟨h1, h2⟩, h3⟩, h4⟩, h5⟩, h6⟩ := h
      obtain ⟨f, fd, ps, lv, q1, q2, q3, q4, q5⟩ := k.fns n h1
      rw [h2] at q1
      have hgu : S.fg n = true → X.A.guards = some [] := fun z => k.gd (by rw [z] at h6; simpa using h6)
      have e := chkA_nil h5
      subst e
      exact pe_imp (pe_callG0 q5 hgu q4 (glo_of k h3) q1 q2 q3 h4) fun _ _ _ z => i_nil (i_call k.tm z)
    · simp only [Bool.and_eq_true, decide_eq_true_eq, Bool.not_eq_true'] at h
      obtain ⟨⟨⟨⟨⟨h1, h2⟩, h3⟩, h4⟩, h5⟩, h6⟩ := h
      obtain ⟨f, fd, ps, lv, q1, q2, q3, q4, q5⟩ := k.fns n h1
      rw [h2] at q1
      have hgu : S.fg n = true → X.A.guards = some [] := fun z => k.gd (by rw [z] at h6; simpa using h6)
      exact pe_imp (pe_callG q5 hgu q4 (glo_of k h3) q1 q2 q3 (sA es k h5) h4 (star_of (chkA_head h5)) (tail_star h5 X.env _)) fun _ _ _ => i_call k.tm
    · cases h
  | .comp own g it t c, X, S, e, k, h => by
    simp only [chkE] at h
    split at h
    · rename_i cpos
      simp only [Bool.and_eq_true] at h
      obtain ⟨⟨⟨⟨⟨⟨h1, h2⟩, h3⟩, h4⟩, h5⟩, h6⟩, h7⟩ := h
      have hk := blkC_kind h1
      have q := pe_lc (own := ownOf S.N own) (pos := cpos) (wi := LI T X.K it) (g := LG X.K g) (tt := LC T X.K t) (te := LE T X.K c) k.good.calm k.nd (sI it k h2) (by rw [k.hN, k.hsc]; exact blkOk_by h1) (fun s H C cl fp => sG (k.blk hk s H C cl fp) h3) (fun s H C cl fp => sC t (k.blk hk s H C cl fp) h4) (fun s H C cl fp => sE c (k.blk hk s H C cl fp) h5) (set_of h6 X.env)
      rw [ownOf_snd] at q
      exact pe_imp q fun _ _ _ => i_comp k.tm h7
    · cases h
theorem sA {T : Tb} : ∀ (c : CA) {X : Cx} {S : SC} {es : List Expr}, CxOk T X S → chkA S c es = true → PA X es (LA T X.K c)
  | .nil, X, S, es, k, h => by
    simp only [chkA, List.isEmpty_iff] at h
    subst h
    exact pa_imp pa_nil fun _ _ _ => i_nil
  | .cons c cs, X, S, es, k, h => by
    simp only [chkA] at h
    split at h
    · simp only [Bool.and_eq_true] at h
      exact pa_imp (pa_cons (sE c k h.1.2) (sA cs k h.2) (star_of h.1.1)) fun _ _ _ => i_cons k.tm
    · cases h
  | .star c cs, X, S, es, k, h => by
    simp [chkA] at h
theorem sK {T : Tb} : ∀ (c : CA) {X : Cx} {S : SC} {es : List Expr}, CxOk T X S → chkA S c es = true → PA X es (LK T X.K c)
  | .nil, X, S, es, k, h => by
    simp only [chkA, List.isEmpty_iff] at h
    subst h
    exact pa_imp pa_nil fun _ _ _ => i_nilK
  | .cons c cs, X, S, es, k, h => by
    simp only [chkA] at h
    split at h
    · simp only [Bool.and_eq_true] at h
      exact pa_imp (pa_cons (sE c k h.1.2) (sK cs k h.2) (star_of h.1.1)) fun _ _ _ => i_consK k.tm
    · cases h
  | .star c cs, X, S, es, k, h => by
    simp [chkA] at h
theorem sKV {T : Tb} : ∀ (c : CA) {X : Cx} {S : SC} {xs : List Str} {ks : List (Option Expr)} {vs : List Expr} {pos : Pos}, CxOk T X S → chkKV S c xs ks vs = true → PPs X pos ks vs (trK T X.K xs c) ∧ fitsK xs c = true ∧ ks.all (·.isSome) = true ∧ ks.length = vs.length ∧ xs.length = ks.length
  | .nil, X, S, xs, ks, vs, pos, k, h => by
    simp only [chkKV, Bool.and_eq_true, List.isEmpty_iff] at h
    obtain ⟨⟨h1, h2⟩, h3⟩ := h
    subst h1 h2 h3
    exact ⟨pps_nil, rfl, rfl, rfl, rfl⟩
  | .cons c cs, X, S, xs, ks, vs, pos, k, h => by
    simp only [chkKV] at h
    split at h
    · simp only [Bool.and_eq_true, decide_eq_true_eq] at h
      obtain ⟨⟨h1, h2⟩, h3⟩ := h
      subst h1
      obtain ⟨q1, q2, q3, q4, q5⟩ := sKV cs (pos := pos) k h3
      exact ⟨pps_cons pe_str (sE c k h2) q1, q2, by simpa using q3, by simpa using q4, by simpa using q5⟩
    · cases h
  | .star _ _, X, S, xs, ks, vs, pos, k, h => by simp [chkKV] at h
theorem sDsp {T : Tb} : ∀ (c : CA) {X : Cx} {S : SC} {es : List Expr}, CxOk T X S → chkD S c es = true → PA X es (LK T X.K c)
  | .nil, X, S, es, k, h => by
    simp only [chkD, List.isEmpty_iff] at h
    subst h
    exact pa_imp pa_nil fun _ _ _ => i_nilK
  | .cons c cs, X, S, es, k, h => by
    simp only [chkD] at h
    split at h
    · simp only [Bool.and_eq_true] at h
      exact pa_imp (pa_cons (sE c k h.1.2) (sDsp cs k h.2) (star_of h.1.1)) fun _ _ _ => i_consK k.tm
    · cases h
  | .star c cs, X, S, es, k, h => by
    simp only [chkD] at h
    split at h
    · simp only [Bool.and_eq_true] at h
      exact pa_imp (StX.pa_star (sE c k h.1) (sDsp cs k h.2)) fun _ _ _ => i_starK k.tm
    · cases h
theorem sO {T : Tb} : ∀ (c : CO) {X : Cx} {S : SC} {e : Option Expr}, CxOk T X S → chkO S c e = true → PO X e (LO T X.K c)
  | .none, X, S, e, k, h => by
    simp only [chkO, Option.isNone_iff_eq_none] at h
    subst h
    exact po_imp po_none fun _ _ _ => i_none
  | .some c, X, S, e, k, h => by
    simp only [chkO] at h
    split at h
    · exact po_imp (po_some (sE c k h)) fun _ _ _ => i_some k.tm
    · cases h
theorem sC {T : Tb} : ∀ (c : CC) {X : Cx} {S : SC} {es : List Expr}, CxOk T X S → chkC S c es = true → PTs X es (LC T X.K c)
  | .none, X, S, es, k, h => by
    simp only [chkC, List.isEmpty_iff] at h
    subst h
    refine pts_imp pts_nil fun _ _ _ q => ?_
    obtain ⟨F, G, ρ, hK, r, ev⟩ := q
    exact ev G _ (Same.refl G) r
  | .some c, X, S, es, k, h => by
    simp only [chkC] at h
    split at h
    · refine pts_imp (pts_one (sT c k h)) fun _ _ _ q => ?_
      obtain ⟨F, G, ρ, hK, r, ev⟩ := q
      simp only [evC] at ev
      exact ⟨F, G, ρ, hK, r, ev⟩
    · cases h
theorem sT {T : Tb} : ∀ (c : CT) {X : Cx} {S : SC} {e : Expr}, CxOk T X S → chkT S c e = true → PT X e (LT T X.K c)
  | .cmp o a b, X, S, e, k, h => by
    simp only [chkT] at h
    split at h
    · simp only [Bool.and_eq_true, Bool.not_eq_true'] at h
      exact pt_imp (pt_cmpR (opr_cmp k.good.units (isCmp_of h.1.1.1)) (sE a k h.1.1.2) (sE b k h.1.2) h.2) fun _ _ _ z => by (have q := i_cmpT k.tm z; rw [k.hW] at q; exact q)
    · cases h
  | .chn o o' a b c, X, S, e, k, h => by
    simp only [chkT] at h
    split at h
    · simp only [Bool.and_eq_true, Bool.not_eq_true'] at h
      obtain ⟨⟨⟨⟨⟨h1, h2⟩, h3⟩, h4⟩, h5⟩, h6⟩ := h
      exact pt_imp (pt_chain (opr_cmp k.good.units (isCmp_of h1)) (opr_cmp k.good.units (isCmp_of h2)) (sE a k h4) (sE b k h5) (sE c k h6) (by simpa [lastMarks] using h3)) fun _ _ _ z => by (have q := i_chnT k.tm z; rw [k.hW] at q; exact q)
    · cases h
  | .and a b, X, S, e, k, h => (sW (.and a b) k h ⟨a, b, .inl rfl⟩).pt
  | .or a b, X, S, e, k, h => (sW (.or a b) k h ⟨a, b, .inr rfl⟩).pt
  | .not a, X, S, e, k, h => by
    simp only [chkT] at h
    split at h
    · exact pt_imp (pt_not (sT a k h)) fun _ _ _ => i_notT k.tm
    · cases h
  | .gin neg n c, X, S, e, k, h => by
    simp only [chkT] at h
    split at h
    · simp only [Bool.and_eq_true, decide_eq_true_eq, Bool.not_eq_true'] at h
      obtain ⟨⟨⟨⟨⟨h0, h1⟩, h2⟩, h3⟩, h4⟩, h5⟩ := h
      subst h2
      obtain ⟨d, es, m, q1, q2, q3⟩ := k.gds n h1
      cases neg with
      | true =>
        split at h0
        · cases h0
        · exact pt_imp (pt_cmpR (op_gnin q2 q3) (sE c k h5) (pe_glob (v := .ref d) (glo_of k h3) q1 rfl h4) rfl) fun _ _ _ => i_ginT k.tm
        · cases h0
      | false =>
        split at h0
        · exact pt_imp (pt_cmpR (op_gin q2 q3) (sE c k h5) (pe_glob (v := .ref d) (glo_of k h3) q1 rfl h4) rfl) fun _ _ _ => i_ginT k.tm
        · cases h0
        · cases h0
    · cases h
  | .val c, X, S, e, k, h => by
    simp only [chkT, Bool.and_eq_true] at h
    exact pt_imp (pt_truth (sE c k h.2) (plain_of h.1 X.env)) fun _ _ _ => i_val k.tm
theorem sW {T : Tb} : ∀ (c : CT) {X : Cx} {S : SC} {e : Expr}, CxOk T X S → chkT S c e = true → (∃ a b, c = .and a b ∨ c = .or a b) → PW X e (LT T X.K c)
  | .and a b, X, S, e, k, h, _ => by
    simp only [chkT] at h
    split at h
    · simp only [Bool.and_eq_true] at h
      exact pw_imp (pw_and (sT a k h.1) (pw_and1 (sT b k h.2))) fun _ _ _ => i_andT k.tm
    · simp only [Bool.and_eq_true] at h
      exact pw_imp (pw_and (sT a k h.1) (sW b k h.2 (bool_of h.2))) fun _ _ _ => i_andT k.tm
    · cases h
  | .or a b, X, S, e, k, h, _ => by
    simp only [chkT] at h
    split at h
    · simp only [Bool.and_eq_true] at h
      exact pw_imp (pw_or (sT a k h.1) (pw_or1 (sT b k h.2))) fun _ _ _ => i_orT k.tm
    · simp only [Bool.and_eq_true] at h
      exact pw_imp (pw_or (sT a k h.1) (sW b k h.2 (bool_of h.2))) fun _ _ _ => i_orT k.tm
    · cases h
  | .cmp o a b, _, _, _, _, _, q => by obtain ⟨_, _, q | q⟩ := q <;> cases q
  | .chn o o' a b c, _, _, _, _, _, q => by obtain ⟨_, _, q | q⟩ := q <;> cases q
  | .not a, _, _, _, _, _, q => by obtain ⟨_, _, q | q⟩ := q <;> cases q
  | .val a, _, _, _, _, _, q => by obtain ⟨_, _, q | q⟩ := q <;> cases q
  | .gin _ _ _, _, _, _, _, _, q => by obtain ⟨_, _, q | q⟩ := q <;> cases q
theorem sI {T : Tb} : ∀ (c : CI) {X : Cx} {S : SC} {tg e : Expr}, CxOk T X S → chkI S c tg e = true → PI X tg e (LI T X.K c)
  | .seq c, X, S, tg, e, k, h => by
    simp only [chkI] at h
    exact pi_imp (pi_seq (sE c k h)) fun _ _ _ => i_seq k.tm
  | .range cs, X, S, tg, e, k, h => by
    simp only [chkI] at h
    split at h
    · simp only [Bool.and_eq_true, decide_eq_true_eq] at h
      obtain ⟨⟨⟨h1, h2⟩, h3⟩, h4⟩ := h
      subst h1
      obtain ⟨c, rfl⟩ := chkA_len1 h4
      exact pi_imp (pi_range1 (glo_of k h2) (k.bfree _ (by decide +kernel)) (sA (.cons c .nil) k h4) (star_of h3)) fun _ _ _ => i_rng1 k.tm
    · simp only [Bool.and_eq_true, decide_eq_true_eq] at h
      obtain ⟨⟨⟨⟨h1, h2⟩, h3⟩, h3'⟩, h4⟩ := h
      subst h1
      obtain ⟨c, c2, rfl⟩ := chkA_len2 h4
      exact pi_imp (pi_range2 (glo_of k h2) (k.bfree _ (by decide +kernel)) (sA (.cons c (.cons c2 .nil)) k h4) (by rw [star_of h3, star_of h3']; rfl) (star_of h3')) fun _ _ _ => i_rng2 k.tm
    · simp only [Bool.and_eq_true, decide_eq_true_eq] at h
      obtain ⟨⟨⟨h1, h2⟩, h3⟩, h4⟩ := h
      subst h1
      obtain ⟨c, c2, c3, rfl⟩ := chkA_len3 h4
      exact pi_imp (pi_range3 (glo_of k h2) (k.bfree _ (by decide +kernel)) (sA (.cons c (.cons c2 (.cons c3 .nil))) k h4) (star_of h3) (tail_star h4 X.env _)) fun _ _ _ => i_rng3 k.tm
    · cases h
  | .enum c, X, S, tg, e, k, h => by
    simp only [chkI] at h
    split at h
    · simp only [Bool.and_eq_true, decide_eq_true_eq] at h
      obtain ⟨⟨⟨h1, h2⟩, h3⟩, h4⟩ := h
      subst h1
      exact pi_imp (pi_enumX (glo_of k h2) (k.bfree _ (by decide +kernel)) (pa_imp (pa_cons (sE c k h4) (pa_imp pa_nil fun _ _ _ => i_nilK) (star_of h3)) fun _ _ _ => i_consK k.tm) (star_of h3)) fun _ _ _ => i_enum k.tm
    · cases h
  | .zip cs, X, S, tg, e, k, h => by
    simp only [chkI] at h
    split at h
    · simp only [Bool.and_eq_true, decide_eq_true_eq] at h
      obtain ⟨⟨⟨h1, h2⟩, h3⟩, h4⟩ := h
      subst h1
      exact pi_imp (pi_zipX (glo_of k h2) (k.bfree _ (by decide +kernel)) (sK cs k h4) (star_of h3) (tail_star h4 X.env _)) fun _ _ _ => i_zip k.tm
    · cases h
end
end DI

set_option Elab.async false
set_option linter.all false
set_option autoImplicit false
set_option maxRecDepth 100000
set_option maxHeartbeats 2000000
namespace DI
open PySem PySem.Spec PyProof.Rows L2
theorem filterMap_lt {α β : Type} {f : α → Option β} : ∀ {l : List α}, (∃ x ∈ l, f x = none) → (l.filterMap f).length < l.length
  | [], ⟨_, h, _⟩ => by simp at h
  | a :: l, ⟨x, hm, hx⟩ => by
    have hle : (l.filterMap f).length ≤ l.length := List.length_filterMap_le f l
    rcases List.mem_cons.mp hm with e | e
    · subst e
      rw [List.filterMap_cons, hx]
      simp only [List.length_cons]
      omega
    · have ih := filterMap_lt ⟨x, e, hx⟩
      rw [List.filterMap_cons, List.length_cons]
      split
      · omega
      · rw [List.length_cons]; omega
theorem sw_none {ts vs : List Expr} {k k2 : Nat} {p p2 : Pos} {env : PySem.Env} (h : ∃ t ∈ ts, ∀ x q, t = .Name x q → env.kindOf x ≠ some .local) : swappedStores [.Tuple ts k p] (.Tuple vs k2 p2) env = pure none := by
  unfold swappedStores
  simp only
  split
  · rfl
  · split
    · rfl
    · have q : (ts.filterMap fun | Expr.Name id pos => if (env.kindOf id == some NameKind.local && pos.line == (Option.map (fun x => x.pos.line) ts.head?).getD 0) = true then some id else none | _ => none).length < ts.length := by
        obtain ⟨t, h1, h2⟩ := h
        refine filterMap_lt ⟨t, h1, ?_⟩
        split
        · rename_i x q
          have := h2 x q rfl
          rw [if_neg]
          simp [this]
        · rfl
      rw [if_pos]
      · rw [Bool.or_eq_true]
        exact .inl (bne_iff_ne.mpr (Nat.ne_of_lt q))
theorem sw_some {a b : Str} {pa pb p p2 : Pos} {x y : Expr} {k k2 : Nat} {env : PySem.Env} (hk : env.scope.kind = .function) (ha : env.scope.names.lookup a = some .local) (hb : env.scope.names.lookup b = some .local) (hl : (pb.line == pa.line) = true) (ne : a ≠ b)
    (n1 : noStar x = true) (n2 : noStar y = true) (n3 : (foldedForSure 8 x && foldedForSure 8 y) = false) (n4 : (constantsAlone 8 x && constantsAlone 8 y) = false) :
    swappedStores [.Tuple [.Name a pa, .Name b pb] k p] (.Tuple [x, y] k2 p2) env = pure (some [a, b]) := by
  have hbk : env.blockKind = .function := by
    unfold Env.blockKind
    rw [hk]
    rfl
  have ka : env.kindOf a = some .local := ha
  have kb : env.kindOf b = some .local := hb
  have s1 : ([x, y].any fun | .Starred _ _ => true | _ => false) = false := by
    have star1 : ∀ z : Expr, noStar z = true → (match z with | .Starred _ _ => true | _ => false) = false := by
      intro z hz
      cases z <;> first | rfl | cases hz
    rw [List.any_cons, List.any_cons, List.any_nil]
    rw [star1 x n1, star1 y n2]
    rfl
  unfold swappedStores
  simp only [hbk, List.length_cons, List.length_nil]
  rw [if_neg (by decide)]
  refine (if_neg (fun z => Bool.false_ne_true (s1.symm.trans z))).trans ?_
  have e : ([Expr.Name a pa, Expr.Name b pb].filterMap fun | Expr.Name id pos => if (env.kindOf id == some NameKind.local && pos.line == (Option.map (fun x => x.pos.line) [Expr.Name a pa, Expr.Name b pb].head?).getD 0) = true then some id else none | _ => none) = [a, b] := by
    have hl' : pb.line = pa.line := by simpa using hl
    simp [ka, kb, Expr.pos, hl']
  have key : ∀ L : List Str, L = [a, b] → ¬ ((L.length != 2 || L.eraseDups.length != L.length) = true) := by
    intro L hL
    subst hL
    have e1 : [a, b].eraseDups = [a, b] := by
      rw [List.eraseDups_cons]
      have : ([b].filter fun c => !c == a) = [b] := by simp [Ne.symm ne]
      rw [this]
      rfl
    rw [e1]
    simp
  refine (if_neg (key _ e)).trans ?_
  rw [if_neg (by simp only [List.all_cons, List.all_nil, Bool.and_true]; rw [n3]; decide), if_neg (by simp only [List.all_cons, List.all_nil, Bool.and_true]; rw [n4]; decide)]
  exact congrArg (fun l => pure (some l)) e
/-- a, b = x, y where a name is a cell: stored from the left; the pair itself is not followed -/
theorem ps_parC {X : Cx} {pos : Pos} {i j : Nat} {x y : Str} {a b : Expr} {ta : TA} {p1 p2 p3 p4 : Pos} {k1 k2 : Nat} (hc : X.calm = true) (nd : X.N.Nodup) (hi : X.N[i]? = some x) (hj : X.N[j]? = some y)
    (hx : Loc X.env.scope x) (fx : X.fn x = true ∨ X.env.scope.names.lookup x = some .local) (hy : Loc X.env.scope y) (fy : X.fn y = true ∨ X.env.scope.names.lookup y = some .local) (ha : PA X [a, b] ta)
    (sw : swappedStores [.Tuple [.Name x p1, .Name y p2] k1 p3] (.Tuple [a, b] k2 p4) X.env = pure none)
    (so : swapsWithSole [.Tuple [.Name x p1, .Name y p2] k1 p3] (.Tuple [a, b] k2 p4) pos.line X.env = pure false) :
    PS X (.Assign [.Tuple [.Name x p1, .Name y p2] k1 p3] (.Tuple [a, b] k2 p4) pos) (tPar i j ta) := by
  refine ⟨fun pins s σ H D I h => wpAny_Assign_stores (Tuple_ (thn (ha.run _ pins s σ H _ I h) ?_)) so sw⟩
  rintro us s1 ⟨vs, H1, I1, r1, v, w, rfl, q1⟩
  cases r1 with
  | cons rv r =>
    cases r with
    | cons rw' r =>
      cases r
      rename_i u1 u2
      refine wpAny_newObj_type ?_ (Nat.le_of_ble_eq_true rfl)
      have J := I1.kept (h' := s1.heap.push { cls := .type "tuple", data := .seq #[u1, u2] }) (t' := s1.toks) fun _ _ e => Heap.get?_push_of_some _ e
      refine assign_Tuple_tuple (items := #[u1, u2]) (x1 := k1) (pos := p3) (elts := [.Name x p1, .Name y p2]) (I.ok.hd hc) (IsTup.new s1.heap _) rfl rfl fun h' e' => ?_
      have J' := J.kept (h' := h') (t' := s1.toks) fun c o e => e' c o (Nat.ne_of_lt (Heap.lt_size e)) e
      refine assignInOrder_cons (wpAny_assign_Name (store_ok J' nd hi hx rv (fun s2 I2 => ?_) fx))
      refine assignInOrder_cons (wpAny_assign_Name (store_ok I2 nd hj hy rw' (fun s3 I3 => ?_) fy))
      exact assignInOrder_nil ⟨_, H1, I3, q1⟩
end DI

set_option Elab.async false
set_option linter.all false
set_option autoImplicit false
set_option maxRecDepth 100000
set_option maxHeartbeats 2000000
/-! DI3g: statements. -/
namespace DI
open PySem PySem.Spec PyProof.Rows L2
/-- what a raised error asks: its class, its field's name, what is wished -/
structure XW where
  cn : Addr
  fx : Str
  W : XK
def EnL (xw : XW) (F : Fr) (G : Hp) (D : Ends) : En where
  nx := fun ρ' => ∀ σ' G' H', Same G G' → Rl F G' H' σ' ρ' → D.nx σ' H'
  rt := fun r ρ' => ∀ σ' v G' H', Same G G' → Rl F G' H' σ' ρ' → RR F G' H' σ' ρ' v r → D.rt v H'
  bk := fun ρ' => ∀ σ' G' H', Same G G' → Rl F G' H' σ' ρ' → D.bk σ' H'
  ct := fun ρ' => ∀ σ' G' H', Same G G' → Rl F G' H' σ' ρ' → D.ct σ' H'
  xc := fun d ρ' => ∀ σ' v dx G' H', Same G G' → Rl F G' H' σ' ρ' → H' dx = some (.xd [(xw.fx, v)]) → Rp F.K G' v d → xw.W (.ref xw.cn) (some dx) H'
def LS (T : Tb) (K : PySem.W.Frag) (xw : XW) (c : CS) : TS := fun D σ H => ∃ F G ρ, F.K = K ∧ Rl F G H σ ρ ∧ evS T c ρ (EnL xw F G D)
def LB (T : Tb) (K : PySem.W.Frag) (xw : XW) (c : List CS) : TS := fun D σ H => ∃ F G ρ, F.K = K ∧ Rl F G H σ ρ ∧ evB T c ρ (EnL xw F G D)
theorem EnL.mono {xw : XW} {F : Fr} {G G' : Hp} {D : Ends} (g : Same G G') : (EnL xw F G D).Le (EnL xw F G' D) :=
  ⟨fun ρ h σ' G2 H2 g2 => h σ' G2 H2 (g.trans g2), fun r ρ h σ' v G2 H2 g2 => h σ' v G2 H2 (g.trans g2), fun ρ h σ' G2 H2 g2 => h σ' G2 H2 (g.trans g2), fun ρ h σ' G2 H2 g2 => h σ' G2 H2 (g.trans g2), fun d ρ h σ' v dx G2 H2 g2 => h σ' v dx G2 H2 (g.trans g2)⟩
theorem RpN.length {K : PySem.W.Frag} {G : Hp} : ∀ {xs : List (NestedKey × Addr × Value)} {ds : List (NestedKey × D × D)}, RpN K G xs ds → xs.length = ds.length
  | _, _, .nil => rfl
  | _, _, .cons _ _ _ _ _ r => by rw [List.length_cons, List.length_cons, RpN.length r]
section
variable {T : Tb} {K : PySem.W.Frag} {xw : XW} {σ : L2.St} {H : Hp} {D : Ends}
theorem s_asgN (tm : T.Mono) {i : Nat} {e : CE} (h : LS T K xw (.asg (.name i) e) D σ H) : tAsg (LE T K e) (gName i) D σ H := by
  obtain ⟨F, G, ρ, hK, r, ev⟩ := h
  subst hK
  simp only [evS] at ev
  refine ⟨F, G, ρ, rfl, r, evE_mono tm e (fun r1 ρ1 ev v1 G1 H1 g1 rl1 rr1 => ?_) ev⟩
  cases r1 with
  | ow d =>
    obtain ⟨a, rfl, n⟩ := rr1
    exact ev _ G1 H1 g1 (rl1.put_ow n)
  | fz d => exact ev _ G1 H1 g1 (rl1.put_fz rr1)
  | al j =>
    obtain ⟨G2, d, ρ2, g2, rl2, p, ev⟩ := keepR rl1 rr1 ev
    exact ev _ G2 H1 (g1.trans g2) (rl2.put_fz p)
theorem s_asgT (tm : T.Mono) {is : List Nat} {e : CE} (h : LS T K xw (.asg (.tup is) e) D σ H) : tAsg (LE T K e) (LG K (.tup is)) D σ H := by
  obtain ⟨F, G, ρ, hK, r, ev⟩ := h
  subst hK
  simp only [evS] at ev
  refine ⟨F, G, ρ, rfl, r, evE_mono tm e (fun r1 ρ1 ev v1 G1 H1 g1 rl1 rr1 => ?_) ev⟩
  obtain ⟨G2, d, ρ2, g2, rl2, p, ev⟩ := keepR rl1 rr1 ev
  exact ⟨F, G2, ρ2, d, rfl, rl2, p, asgG_mono (fun ρ3 ev σ3 _ _ rl3 => ev σ3 G2 H1 (g1.trans g2) rl3) ev⟩
theorem s_par (tm : T.Mono) {i j : Nat} {a b : CE} (h : LS T K xw (.par i j a b) D σ H) : tPar i j (tCons (LE T K a) (tCons (LE T K b) tNil)) D σ H := by
  obtain ⟨F, G, ρ, hK, r, ev⟩ := h
  subst hK
  simp only [evS] at ev
  refine ⟨F, G, ρ, rfl, r, evE_mono tm a (fun r1 ρ1 ev v1 G1 H1 g1 rl1 rr1 => ?_) ev⟩
  cases r1 with
  | ow d =>
    obtain ⟨x, rfl, n⟩ := rr1
    obtain ⟨o, ho⟩ : ∃ o, H1 x = some o := by
      cases q : H1 x with
      | none => exact absurd q n.con.some
      | some o => exact ⟨o, rfl⟩
    refine ⟨F.aside x o, G1, ρ1, rfl, rl1.aside n ho, evE_mono tm b (fun r2 ρ2 ev v2 G2 H2 g2 rl2 rr2 => ?_) ev⟩
    refine ⟨_, _, rfl, ?_⟩
    obtain ⟨rl3, n3⟩ := rl1.unaside n ho g2 rl2
    have rl4 := rl3.put_ow (i := i) n3
    cases r2 with
    | ow e =>
      obtain ⟨y, rfl, m⟩ := rr2
      refine ev _ G2 H2 (g1.trans g2) (rl4.put_ow ⟨fun z => m.np (.inr z), m.gn, m.con, fun l d' hl hs => ?_, m.bg⟩)
      rcases put_at hl with ⟨el, _⟩ | ⟨nl, hl⟩
      · subst el
        have hs : (σ.set l (some (.ref x)))[l]? = some (some (.ref y)) := hs
        by_cases hb : l < σ.length
        · rw [List.getElem?_set_self hb] at hs
          cases hs
          exact m.np (.inl rfl)
        · rw [List.getElem?_eq_none (by simpa using hb)] at hs
          cases hs
      · rw [set_at nl] at hs
        exact m.sl l d' hl hs
    | fz e => exact ev _ G2 H2 (g1.trans g2) (rl4.put_fz rr2)
    | al l => exact ev.elim
  | fz d =>
    refine ⟨F, G1, ρ1, rfl, rl1, evE_mono tm b (fun r2 ρ2 ev v2 G2 H2 g2 rl2 rr2 => ?_) ev⟩
    refine ⟨_, _, rfl, ?_⟩
    have p : Rp F.K G2 v1 d := Rp.mono g2 rr1
    have rl4 := rl2.put_fz (i := i) p
    cases r2 with
    | ow e =>
      obtain ⟨y, rfl, m⟩ := rr2
      refine ev _ G2 H2 (g1.trans g2) (rl4.put_ow ⟨m.np, m.gn, m.con, fun l d' hl hs => ?_, m.bg⟩)
      rcases put_at hl with ⟨el, z⟩ | ⟨nl, hl⟩
      · cases z
      · rw [set_at nl] at hs
        exact m.sl l d' hl hs
    | fz e => exact ev _ G2 H2 (g1.trans g2) (rl4.put_fz rr2)
    | al l => exact ev.elim
  | al l =>
    refine ⟨F, G1, ρ1, rfl, rl1, evE_mono tm b (fun r2 ρ2 ev v2 G2 H2 g2 rl2 rr2 => ?_) ev⟩
    exact ev.elim
theorem s_sub (tm : T.Mono) {i : Nat} {k e : CE} (h : LS T K xw (.sub i k e) D σ H) : tAsg (LE T K e) (gSub (tVar i) (LE T K k) rSetL) D σ H := by
  obtain ⟨F, G, ρ, hK, r, ev⟩ := h
  subst hK
  simp only [evS] at ev
  refine ⟨F, G, ρ, rfl, r, evE_mono tm e (fun r1 ρ1 ev v1 G1 H1 g1 rl1 rr1 => ?_) ev⟩
  obtain ⟨G2, d, ρ2, g2, rl2, p, ⟨⟨x, hx⟩, ev⟩⟩ := keepR rl1 rr1 ev
  obtain ⟨a, h1, h2⟩ := rl2.ow i x hx
  refine ⟨.ref a, h1, F, G2, ρ2, rfl, rl2, evE_mono tm k (fun r2 ρ3 ev v3 G3 H3 g3 rl3 rr3 => ?_) ev⟩
  split at ev
  · rename_i xs n hxs
    obtain ⟨j, hj, ev⟩ := ev
    obtain ⟨a', q1, q2, q3, ws, q4, q5⟩ := rl3.ow i _ hxs
    rw [h1] at q1
    cases q1
    cases rr3
    refine ⟨a, ws, n, j, rfl, rfl, q4, by rw [q5.length]; exact hj, ?_⟩
    exact ev σ G3 _ (g1.trans (g2.trans g3)) (rl3.mut hxs h1 ⟨_, upd_same, q5.set j (p.mono g3)⟩)
  · exact ev.elim
theorem s_aug (tm : T.Mono) {i : Nat} {o : O2} {e : CE} {f : Int → Int → Int} (hf : (o = .add ∧ f = fun x y => x + y) ∨ (o = .sub ∧ f = fun x y => x - y)) (h : LS T K xw (.aug i o e) D σ H) : tAug i (LE T K e) (ipI f) D σ H := by
  obtain ⟨F, G, ρ, hK, r, ev⟩ := h
  subst hK
  simp only [evS] at ev
  obtain ⟨⟨d, hd⟩, ev⟩ := ev
  obtain ⟨v, h1, h2⟩ := r.fz i d hd
  refine ⟨v, h1, F, G, ρ, rfl, r, evE_mono tm e (fun r1 ρ1 ev v1 G1 H1 g1 rl1 rr1 => ?_) ev⟩
  split at ev
  · rename_i x y hx
    rw [hd] at hx
    cases hx
    cases h2
    cases rr1
    refine ⟨x, y, rfl, rfl, ?_⟩
    rcases hf with ⟨ho, hf⟩ | ⟨ho, hf⟩
    · subst ho hf
      exact ev _ G1 H1 g1 (rl1.put_fz (.int _))
    · subst ho hf
      exact ev _ G1 H1 g1 (rl1.put_fz (.int _))
  · exact ev.elim
theorem s_augS (tm : T.Mono) {i : Nat} {k e : CE} (h : LS T K xw (.augS i k e) D σ H) : tAugS (tVar i) (LE T K k) (LE T K e) (rIxL K) (ipI fun x y => x + y) rSetL D σ H := by
  obtain ⟨F, G, ρ, hK, r, ev⟩ := h
  subst hK
  simp only [evS] at ev
  obtain ⟨⟨x0, hx⟩, ev⟩ := ev
  obtain ⟨a, h1, h2⟩ := r.ow i _ hx
  refine ⟨.ref a, h1, F, G, ρ, rfl, r, evE_mono tm k (fun r1 ρ1 ev v1 G1 H1 g1 rl1 rr1 => ?_) ev⟩
  split at ev
  · rename_i xs n hxs
    obtain ⟨j, x, hj, hxj, ev⟩ := ev
    obtain ⟨a', q1, q2, q3, ws, q4, q5⟩ := rl1.ow i _ hxs
    rw [h1] at q1
    cases q1
    cases rr1
    obtain ⟨v, hv, rv⟩ := q5.get hxj
    cases rv
    have hat : atI ws n = some (.int x) := by
      unfold atI
      rw [q5.length, hj]
      exact hv
    refine ⟨a, ws, n, .int x, rfl, rfl, SqL.of q4, hat, F, G1, ρ1, rfl, rl1, evE_mono tm e (fun r2 ρ2 ev v2 G2 H2 g2 rl2 rr2 => ?_) ev⟩
    split at ev
    · rename_i ys y hys
      obtain ⟨hl, ev⟩ := ev
      obtain ⟨a', q1, q2, q3, ws2, q6, q7⟩ := rl2.ow i _ hys
      rw [h1] at q1
      cases q1
      cases rr2
      refine ⟨x, y, rfl, rfl, a, ws2, n, j, rfl, rfl, q6, by rw [q7.length, hl]; exact hj, ?_⟩
      exact ev σ G2 _ (g1.trans g2) (rl2.mut hys h1 ⟨_, upd_same, q7.set j (.int _)⟩)
    · exact ev.elim
  · exact ev.elim
theorem s_dset (tm : T.Mono) {i : Nat} {k e : CE} (h : LS T K xw (.dset i k e) D σ H) : tAsg (LE T K e) (gSub (tVar i) (LE T K k) (fun o i v H Q => rSetN T.W K o i v H Q ∨ rSetK o i v H Q)) D σ H := by
  obtain ⟨F, G, ρ, hK, r, ev⟩ := h
  subst hK
  simp only [evS] at ev
  refine ⟨F, G, ρ, rfl, r, evE_mono tm e (fun r1 ρ1 ev v1 G1 H1 g1 rl1 rr1 => ?_) ev⟩
  obtain ⟨G2, d, ρ2, g2, rl2, p, ⟨⟨x, hx⟩, ev⟩⟩ := keepR rl1 rr1 ev
  obtain ⟨a, h1, h2⟩ := rl2.ow i x hx
  refine ⟨.ref a, h1, F, G2, ρ2, rfl, rl2, evE_mono tm k (fun r2 ρ3 ev v3 G3 H3 g3 rl3 rr3 => ?_) ev⟩
  split at ev
  · rename_i W kvs ks hxs
    obtain ⟨rfl, hlen, n, hn, hd, ev⟩ := ev
    obtain ⟨a', q1, q2, q3, xs, q4, q5⟩ := rl3.ow i _ hxs
    rw [h1] at q1
    cases q1
    have rr3 : Rp F.K G3 v3 (.tup ks) := rr3
    cases rr3 with
    | tup t1 t2 =>
      have hl : xs.length = kvs.length := RpN.length q5
      refine .inl ⟨a, _, xs, kvs, _, n, rfl, rfl, q4, q5.mono rl3.sub, (Rp.tup t1 t2).mono rl3.sub, hn, hd, by omega, fun u ru => ?_⟩
      exact ev σ G3 _ (g1.trans (g2.trans g3)) (rl3.mut hxs h1 ⟨_, upd_same, rpN_put q5 (.tup t1 t2) hn hd ru (p.mono g3)⟩)
  · rename_i kvs x hxs
    obtain ⟨hlen, ev⟩ := ev
    obtain ⟨a', q1, q2, q3, xs, q4, q5⟩ := rl3.ow i _ hxs
    rw [h1] at q1
    cases q1
    have rr3 : Rp F.K G3 v3 (.str x) := rr3
    cases rr3
    refine .inr ⟨a, xs, .inr x, rfl, rfl, q4, by rw [q5.length]; exact hlen, ?_⟩
    exact ev σ G3 _ (g1.trans (g2.trans g3)) (rl3.mut hxs h1 ⟨_, upd_same, q5.put (.inr x) (p.mono g3)⟩)
  · exact ev.elim
theorem s_expr (tm : T.Mono) {e : CE} (h : LS T K xw (.expr e) D σ H) : tDrop (LE T K e) D σ H := by
  obtain ⟨F, G, ρ, hK, r, ev⟩ := h
  subst hK
  simp only [evS] at ev
  exact ⟨F, G, ρ, rfl, r, evE_mono tm e (fun r1 ρ1 ev v1 G1 H1 g1 rl1 rr1 => ev σ G1 H1 g1 rl1) ev⟩
theorem s_ret (tm : T.Mono) {e : CE} (h : LS T K xw (.ret e) D σ H) : tRet (LE T K e) D σ H := by
  obtain ⟨F, G, ρ, hK, r, ev⟩ := h
  subst hK
  simp only [evS] at ev
  exact ⟨F, G, ρ, rfl, r, evE_mono tm e (fun r1 ρ1 ev v1 G1 H1 g1 rl1 rr1 => ev σ v1 G1 H1 g1 rl1 rr1) ev⟩
theorem s_ite (tm : T.Mono) {c : CT} {a b : List CS} (h : LS T K xw (.ite c a b) D σ H) : tIfS (LT T K c) (LB T K xw a) (LB T K xw b) D σ H := by
  obtain ⟨F, G, ρ, hK, r, ev⟩ := h
  subst hK
  simp only [evS] at ev
  refine ⟨F, G, ρ, rfl, r, evT_mono tm c (fun k ρ1 ev G1 H1 g1 rl1 => ?_) ev⟩
  cases k with
  | true => exact ⟨F, G1, ρ1, rfl, rl1, evB_mono tm a (EnL.mono g1) ev⟩
  | false => exact ⟨F, G1, ρ1, rfl, rl1, evB_mono tm b (EnL.mono g1) ev⟩
theorem s_for (tm : T.Mono) {g : CG} {it : CI} {b : List CS} (h : LS T K xw (.for_ g it b) D σ H) : tFor (LI T K it) (LG K g) (LB T K xw b) D σ H := by
  obtain ⟨F, G, ρ, hK, r, ev⟩ := h
  subst hK
  simp only [evS] at ev
  refine ⟨F, G, ρ, rfl, r, evI_mono tm it (fun ds ρ1 ev J G1 H1 g1 rl1 wk => ?_) ev⟩
  generalize hst : (fun (d : DI.D) (ρ2 : Sta) (E2 : En) => asgG g d ρ2 fun ρ3 => evB T b ρ3 E2) = step at ev
  have hst' : ∀ d ρ2 E2, step d ρ2 E2 = asgG g d ρ2 fun ρ3 => evB T b ρ3 E2 := fun d ρ2 k => by rw [← hst]
  refine ⟨fun i m σ H => m = ds.length - i ∧ i ≤ ds.length ∧ ∃ G2 ρ2, Same G1 G2 ∧ Rl F G2 H σ ρ2 ∧ forD step (ds.drop i) ρ2 (EnL xw F G D), ⟨ds.length, by simp, Nat.zero_le _, G1, _, Same.refl _, rl1, ev⟩, ?_⟩
  rintro i m σ2 H2 ⟨rfl, hi, G2, ρ2, g2, rl2, fd⟩
  by_cases hlt : i < ds.length
  · rw [List.drop_eq_getElem_cons hlt] at fd
    have fd : step ds[i] ρ2 _ := fd
    rw [hst'] at fd
    refine .inr ⟨wk.goes i H2 hlt (g2.trans rl2.sub), fun σ' H' => ∃ G2 ρ2, Same G1 G2 ∧ Rl F G2 H' σ' ρ2 ∧ forD step (ds.drop (i + 1)) ρ2 (EnL xw F G D), fun σ' H' q => ⟨ds.length - (i + 1), by omega, rfl, hlt, q⟩, fun x H' y => ?_⟩
    obtain ⟨d, e1, e2⟩ := wk.yields i H2 x H' hlt (g2.trans rl2.sub) y
    rw [List.getElem?_eq_getElem hlt] at e1
    cases e1
    have e2' : (H' = H2 ∧ Rp F.K G2 x ds[i]) ∨ ∃ T vs es, x = .ref T ∧ H2 T = none ∧ H' = upd H2 T (.tup vs) ∧ ds[i] = .tup es ∧ RpA F.K G2 vs es := by
      rcases e2 with ⟨q1, q2⟩ | ⟨t, vs, es, q1, q2, q3, q4, q5⟩
      · exact .inl ⟨q1, q2.mono g2⟩
      · exact .inr ⟨t, vs, es, q1, q2, q3, q4, q5.mono g2⟩
    obtain ⟨G3, w3, p3⟩ := came (p := fun _ => True) rl2 e2'
    have rl3 := rl2.grow w3
    refine ⟨F, G3, ρ2, _, rfl, rl3, p3, asgG_mono (fun ρ3 fd σ3 hl hoff rl4 => ?_) fd⟩
    refine ⟨F, G3, ρ3, rfl, rl4, evB_mono tm b ?_ fd⟩
    have gg : Same G G3 := g1.trans (g2.trans w3.g)
    refine ⟨fun ρ4 q σ5 G5 H5 g5 rl5 => ⟨G5, ρ4, g2.trans (w3.g.trans g5), rl5, q⟩, fun r4 ρ4 q σ5 v5 G5 H5 g5 => q σ5 v5 G5 H5 (gg.trans g5), fun ρ4 q σ5 G5 H5 g5 => q σ5 G5 H5 (gg.trans g5), fun ρ4 q σ5 G5 H5 g5 rl5 => ⟨G5, ρ4, g2.trans (w3.g.trans g5), rl5, q⟩, fun d4 ρ4 q σ5 v5 x5 G5 H5 g5 => q σ5 v5 x5 G5 H5 (gg.trans g5)⟩
  · have ei : i = ds.length := by omega
    subst ei
    rw [List.drop_length] at fd
    exact .inl ⟨wk.stops H2 (g2.trans rl2.sub), fd σ2 G2 H2 (g1.trans g2) rl2⟩
theorem s_while (tm : T.Mono) {c : CT} {b : List CS} (h : LS T K xw (.while_ c b) D σ H) : tWhile (LT T K c) (LB T K xw b) D σ H := by
  obtain ⟨F, G, ρ, hK, r, ev⟩ := h
  subst hK
  simp only [evS] at ev
  obtain ⟨I, ⟨m0, h0⟩, hI⟩ := ev
  refine ⟨fun m σ H => ∃ G2 ρ2, Same G G2 ∧ Rl F G2 H σ ρ2 ∧ I m ρ2, ⟨m0, G, ρ, Same.refl G, r, h0⟩, ?_⟩
  rintro m σ2 H2 ⟨G2, ρ2, g2, rl2, hi⟩
  have ev := hI m ρ2 hi
  refine ⟨F, G2, ρ2, rfl, rl2, evT_mono tm c (fun k ρ3 ev G3 H3 g3 rl3 => ?_) ev⟩
  have gg : Same G G3 := g2.trans g3
  cases k with
  | true =>
    refine ⟨fun σ H => ∃ m', m' < m ∧ ∃ G2 ρ2, Same G G2 ∧ Rl F G2 H σ ρ2 ∧ I m' ρ2, fun σ' H' q => q, F, G3, ρ3, rfl, rl3, evB_mono tm b ?_ ev⟩
    exact ⟨fun ρ4 ⟨m', hm, q⟩ σ5 G5 H5 g5 rl5 => ⟨m', hm, G5, ρ4, gg.trans g5, rl5, q⟩, fun r4 ρ4 q σ5 v5 G5 H5 g5 => q σ5 v5 G5 H5 (gg.trans g5), fun ρ4 q σ5 G5 H5 g5 => q σ5 G5 H5 (gg.trans g5), fun ρ4 ⟨m', hm, q⟩ σ5 G5 H5 g5 rl5 => ⟨m', hm, G5, ρ4, gg.trans g5, rl5, q⟩, fun d4 ρ4 q σ5 v5 x5 G5 H5 g5 => q σ5 v5 x5 G5 H5 (gg.trans g5)⟩
  | false => exact ev σ2 G3 H3 gg rl3
/-- x[k] = v, the value at hand -/
theorem sub_go (tm : T.Mono) {F : Fr} {G : Hp} {ρ : Sta} {i : Nat} {k : CE} {v : V} {d x : DI.D} {P : Sta → Prop} {Q : L2.St → Hp → Prop} (r : Rl F G H σ ρ) (hx : ρ.sl[i]? = some (.ow x)) (p : Rp F.K G v d)
    (ev : evE T k ρ fun s ρ3 => match ρ3.sl[i]?, s with
      | some (.ow (.lst xs)), .fz (.int n) => ∃ j, ixN xs.length n = some j ∧ P (ρ3.put i (.ow (.lst (xs.set j d))))
      | _, _ => False) (f : ∀ G' H' ρ', P ρ' → Same G G' → Rl F G' H' σ ρ' → Q σ H') : gSub (tVar i) (LE T F.K k) rSetL v σ H Q := by
  obtain ⟨a, h1, h2⟩ := r.ow i x hx
  refine ⟨.ref a, h1, F, G, ρ, rfl, r, evE_mono tm k (fun r2 ρ3 ev v3 G3 H3 g3 rl3 rr3 => ?_) ev⟩
  split at ev
  · rename_i xs n hxs
    obtain ⟨j, hj, ev⟩ := ev
    obtain ⟨a', q1, q2, q3, ws, q4, q5⟩ := rl3.ow i _ hxs
    rw [h1] at q1
    cases q1
    cases rr3
    refine ⟨a, ws, n, j, rfl, rfl, q4, by rw [q5.length]; exact hj, ?_⟩
    exact f G3 _ _ ev g3 (rl3.mut hxs h1 ⟨_, upd_same, q5.set j (p.mono g3)⟩)
  · exact ev.elim
theorem s_sub2 (tm : T.Mono) {i : Nat} {k l a b : CE} (h : LS T K xw (.sub2 i k l a b) D σ H) :
    tAsg (tTup (LK T K (.cons a (.cons b .nil)))) (gTup K 2 (gCons (gSub (tVar i) (LE T K k) rSetL) (gCons (gSub (tVar i) (LE T K l) rSetL) gNil))) D σ H := by
  obtain ⟨F, G, ρ, hK, r, ev⟩ := h
  subst hK
  simp only [evS] at ev
  have ev' : evK T (.cons a (.cons b .nil)) ρ (fun ds ρ4 => ∃ d d', ds = [d, d'] ∧ (∃ x, ρ4.sl[i]? = some (.ow x)) ∧ evE T k ρ4 fun s ρ5 => match ρ5.sl[i]?, s with
    | some (.ow (.lst xs)), .fz (.int n) => ∃ j, ixN xs.length n = some j ∧ evE T l (ρ5.put i (.ow (.lst (xs.set j d)))) fun s' ρ6 => (match ρ6.sl[i]?, s' with
      | some (.ow (.lst ys)), .fz (.int n') => ∃ j', ixN ys.length n' = some j' ∧ (EnL xw F G D).nx (ρ6.put i (.ow (.lst (ys.set j' d'))))
      | _, _ => False)
    | _, _ => False) := by
    simp only [evK]
    exact evE_mono tm a (fun r ρ1 h => keep_mono (fun d ρ2 h => evE_mono tm b (fun r' ρ3 h => keep_mono (fun d' ρ4 h => ⟨d, d', rfl, h⟩) h) h) h) ev
  refine ⟨F, G, ρ, rfl, r, evK_mono tm _ (fun ds ρ4 ev vs G1 H1 g1 rl1 p => ?_) ev'⟩
  obtain ⟨d, d', rfl, ⟨x, hx⟩, ev⟩ := ev
  obtain ⟨v1, v2, rfl, p1, p2⟩ : ∃ v1 v2, vs = [v1, v2] ∧ Rp F.K G1 v1 d ∧ Rp F.K G1 v2 d' := by
    cases p with
    | cons p1 p2 =>
      cases p2 with
      | cons p2 p3 =>
        cases p3
        exact ⟨_, _, rfl, p1, p2⟩
  refine ⟨by rw [sizeLine_eq]; simp, fun q hq => ?_⟩
  have w := Gw.newF (o := .tup [v1, v2]) rl1.sub hq
  have rl2 := rl1.grow w
  refine ⟨q, _, rfl, SqT.of upd_same, rfl, _, _, rfl, ?_⟩
  refine sub_go (P := fun ρ6 => (∃ y, ρ6.sl[i]? = some (.ow y)) ∧ evE T l ρ6 fun s' ρ6 => (match ρ6.sl[i]?, s' with
    | some (.ow (.lst ys)), .fz (.int n') => ∃ j', ixN ys.length n' = some j' ∧ (EnL xw F G D).nx (ρ6.put i (.ow (.lst (ys.set j' d'))))
    | _, _ => False)) tm rl2 hx (p1.mono w.g) (evE_mono tm k (fun s ρ5 ev => ?_) ev) fun G' H' ρ' ev g' rl' => ?_
  · split at ev
    · rename_i xs n hxs
      obtain ⟨j, hj, ev⟩ := ev
      refine ⟨j, hj, ⟨.lst (xs.set j d), ?_⟩, ev⟩
      show (ρ5.sl.set i (.ow (.lst (xs.set j d))))[i]? = _
      rw [List.getElem?_set_self (lt_of hxs)]
    · exact ev.elim
  · obtain ⟨⟨y, hy⟩, ev⟩ := ev
    refine ⟨_, _, rfl, ?_⟩
    refine sub_go (P := (EnL xw F G D).nx) tm rl' hy (p2.mono (w.g.trans g')) ev fun G'' H'' ρ'' ev g'' rl'' => ?_
    exact ⟨rfl, ev σ G'' H'' (g1.trans (w.g.trans (g'.trans g''))) rl''⟩
/-- raise x(e) -/
theorem s_raise (tm : T.Mono) (hc : xw.cn = T.cn) (hfx : xw.fx = T.fx) {e : CE} (h : LS T K xw (.raise e) D σ H) : LE T K e σ H fun v H1 => ∀ dx, H1 dx = none → xw.W (.ref T.cn) (some dx) (upd H1 dx (.xd [(T.fx, v)])) := by
  obtain ⟨F, G, ρ, hK, r, ev⟩ := h
  subst hK
  simp only [evS] at ev
  refine ⟨F, G, ρ, rfl, r, evE_mono tm e (fun r1 ρ1 ev v1 G1 H1 g1 rl1 rr1 => ?_) ev⟩
  obtain ⟨G2, d, ρ2, g2, rl2, p, ev⟩ := keepR rl1 rr1 ev
  intro dx hdx
  have w := Gw.new (o := .xd [(T.fx, v1)]) rl2.sub hdx
  rw [← hc]
  exact ev σ v1 dx G2 _ (g1.trans g2) (rl2.grow w) (by rw [upd_same, hfx]) p
/-- f(..), f may end by an error -/
theorem s_xcall (tm : T.Mono) (hc : xw.cn = T.cn) (hfx : xw.fx = T.fx) {k : Nat} {cs : CA} (h : LS T K xw (.xcall k cs) D σ H) : tDrop (tCall (liftSpX K T.cn T.fx (T.xfn k)) [] xw.W (LA T K cs)) D σ H := by
  obtain ⟨F, G, ρ, hK, r, ev⟩ := h
  subst hK
  simp only [evS] at ev
  show LA T F.K cs σ H _
  refine ⟨F, G, ρ, rfl, r, evA_mono tm cs (fun rs ρ1 ev vs G1 H2 g1 rl1 so => ?_) ev⟩
  obtain ⟨Gf, ds, gf, rlf, ev, ra⟩ := froz (fun i d h => .inl h) rl1 so ev
  have eb : (frzA ρ1 rs).bag = ρ1.bag := put_bag2 ρ1 rs
  rw [List.append_nil]
  refine ⟨Gf, ρ1.bag, ds, rlf.sub, fun b hb => rlf.bg b (by rw [eb]; exact hb), ra, tm.2 k _ ds _ _ _ _ (fun o ev v G' H' ok ro => ?_) (fun d ev v dx G' H' ok hx rp => ?_) ev⟩
  · have w : GwB F.K (frzA ρ1 rs).bag Gf H2 G' H' := by rw [eb]; exact ok.gwB rlf.sub
    exact ev σ G' H' (g1.trans (gf.trans ok.g)) (rlf.growB w)
  · have w : GwB F.K (frzA ρ1 rs).bag Gf H2 G' H' := by rw [eb]; exact ok.gwB rlf.sub
    rw [← hc]
    exact ev σ v dx G' H' (g1.trans (gf.trans ok.g)) (rlf.growB w) (by rw [hfx]; exact hx) rp
end
end DI

set_option Elab.async false
set_option linter.all false
set_option autoImplicit false
set_option maxRecDepth 100000
set_option maxHeartbeats 2000000
/-! DI3h: statements that pass the check; defs. -/
namespace DI
open PySem PySem.Spec PyProof.Rows L2
def isCell (sc : Scope) (x : Str) : Bool := match sc.names.lookup x with
  | some .cell => true
  | _ => false
/-- name = value: no comprehension, or one whose store is its own, or a name that is a cell -/
def setOk (S : SC) (x : Str) (py : Pos) (v : Expr) : Bool := noComp v || (match v with
  | .ListComp _ _ scope pos => (isLoc S.sc x && (py.line == pos.line) && !(scope.names.any fun (n, k) => n == x && (k == .local || k == .cell))) || isCell S.sc x
  | _ => false)
def tupOk (S : SC) (ts : List Expr) (v : Expr) : Bool := noTup v || ts.any fun t => match t with
  | .Name x _ => !isLoc S.sc x
  | _ => false
def notK : CE → Bool
  | .compk _ _ _ _ _ => false
  | _ => true
mutual
def chkS (S : SC) : CS → Stmt → Bool
  | .asg g e, s => match s with
    | .Assign [.Name x py] v _ => chkG S g (.Name x py) && chkE S e v && setOk S x py v && notK e
    | .Assign [.Tuple ts k p] v _ => chkG S g (.Tuple ts k p) && chkE S e v && tupOk S ts v
    | _ => false
  | .par i j a b, s => match s with
    | .Assign [.Tuple [.Name x px, .Name y py] _ _] (.Tuple [u, v] _ _) _ => decide (S.N[i]? = some x) && decide (S.N[j]? = some y) && decide (i ≠ j) && decide (x ≠ y) && noStar u && noStar v && chkE S a u && chkE S b v && ((isLoc S.sc x && isLoc S.sc y && (py.line == px.line) &&
        !(foldedForSure 8 u && foldedForSure 8 v) && !(constantsAlone 8 u && constantsAlone 8 v)) || (locB S x && locB S y && (!isLoc S.sc x || !isLoc S.sc y)))
    | _ => false
  | .sub i k e, s => match s with
    | .Assign [.Subscript (.Name x _) y _] v _ => nameIs S i x && chkE S k y && chkE S e v && noComp v && noSlice y
    | _ => false
  | .aug i o e, s => match s with
    | .AugAssign (.Name x _) op v _ => tgtIs S i x && isBin o op && (match o with
      | .add => true
      | .sub => true
      | _ => false) && chkE S e v
    | _ => false
  | .augS i k e, s => match s with
    | .AugAssign (.Subscript (.Name x _) y _) .Add v _ => nameIs S i x && chkE S k y && chkE S e v && noSlice y
    | _ => false
  | .dset i k e, s => match s with
    | .Assign [.Subscript (.Name x _) y _] v _ => nameIs S i x && chkE S k y && chkE S e v && noComp v && noSlice y
    | _ => false
  | .expr e, s => match s with
    | .Expr v _ => chkE S e v && noComp v
    | _ => false
  | .ret e, s => match s with
    | .Return (some v) _ => chkE S e v
    | _ => false
  | .ite c a b, s => match s with
    | .If t x y _ => chkT S c t && chkB S a x && chkB S b y
    | _ => false
  | .for_ g it b, s => match s with
    | .For tg iter body [] _ => chkG S g tg && chkI S it tg iter && chkB S b body && noSet iter
    | _ => false
  | .while_ c b, s => match s with
    | .While t body [] _ => chkT S c t && chkB S b body
    | _ => false
  | .brk, s => match s with
    | .Break _ => true
    | _ => false
  | .cont, s => match s with
    | .Continue _ => true
    | _ => false
  | .pass, s => match s with
    | .Pass _ => true
    | _ => false
  | .never, _ => true
  | .raise e, s => match s with
    | .Raise (some (.Call (.Name x _) [y] [] _)) none _ => S.ex && S.rs && decide (x = S.nr) && noStar y && chkE S e y
    | _ => false
  | .xcall k es, s => match s with
    | .Expr (.Call (.Name x _) (y :: ys) [] _) _ => S.ex && decide (k < S.nx) && decide (S.xf k = x) && gloB S.sc x && !(x == ("__debug__" : Str)) && chkA S es (y :: ys)
    | _ => false
  | .sub2 i k l a b, s => match s with
    | .Assign [.Tuple [.Subscript (.Name x _) y _, .Subscript (.Name x' _) y' _] _ _] (.Tuple [u, v] _ _) _ => nameIs S i x && nameIs S i x' && chkE S k y && chkE S l y' && noSlice y && noSlice y' && noStar u && noStar v && chkE S a u && chkE S b v
    | _ => false
def chkB (S : SC) : List CS → List Stmt → Bool
  | [], ss => ss.isEmpty
  | c :: cs, ss => match ss with
    | s :: ss => chkS S c s && chkB S cs ss
    | [] => false
end
section
variable {T : Tb} {X : Cx} {S : SC} {xw : XW}
theorem isLoc_of {sc : Scope} {x : Str} (h : isLoc sc x = true) : sc.names.lookup x = some .local := by
  unfold isLoc at h
  split at h
  · assumption
  · cases h
theorem isCell_of {sc : Scope} {x : Str} (h : isCell sc x = true) : sc.names.lookup x = some .cell := by
  unfold isCell at h
  split at h
  · assumption
  · cases h
theorem sw_cell {elt : Expr} {gs : List Comprehension} {scope : Scope} {pos py : Pos} {y : Str} {l : Nat} {env : PySem.Env} (hy : env.scope.names.lookup y = some .cell) : swapsWith (.ListComp elt gs scope pos) (some (.Name y py)) l env = pure false := by
  have ky : env.kindOf y = some .cell := hy
  unfold swapsWith
  simp only [ky]
  have : ((some NameKind.cell : Option NameKind) == some NameKind.local) = false := by decide
  rw [this]
  simp
/-- x = value -/
theorem set_st (c : CxOk T X S) {g : CG} {e : CE} {x : Str} {py pos : Pos} {v : Expr} (h1 : chkG S g (.Name x py) = true) (h2 : chkE S e v = true) (h3 : setOk S x py v = true) (h4 : notK e = true) : PS X (.Assign [.Name x py] v pos) (LS T X.K xw (.asg g e)) := by
  cases g with
  | tup is => simp [chkG] at h1
  | name i =>
    simp only [chkG] at h1
    have h1' := h1
    unfold tgtIs at h1'
    simp only [Bool.and_eq_true, decide_eq_true_eq] at h1'
    obtain ⟨hi, hl⟩ := h1'
    obtain ⟨q1, q2⟩ := loc_of c hl
    have hN : X.N[i]? = some x := by rw [c.hN]; exact hi
    unfold setOk at h3
    rw [Bool.or_eq_true] at h3
    rcases h3 with h3 | h3
    · exact ps_imp (ps_set c.nd hN q1 (sE e c h2) (swap_of h3 _ _ _) q2) fun _ _ _ => s_asgN c.tm
    · split at h3
      · rw [Bool.or_eq_true] at h3
        rcases h3 with h3 | h3
        · simp only [Bool.and_eq_true, Bool.not_eq_true'] at h3
          obtain ⟨⟨p1, p2⟩, p3⟩ := h3
          have hlx : X.env.scope.names.lookup x = some .local := by rw [c.hsc]; exact isLoc_of p1
          cases e with
          | comp own g it t e' =>
            simp only [chkE] at h2
            split at h2
            · rename_i heq
              cases heq
              simp only [Bool.and_eq_true] at h2
              obtain ⟨⟨⟨⟨⟨⟨r1, r2⟩, r3⟩, r4⟩, r5⟩, r6⟩, r7⟩ := h2
              have hk := blkC_kind r1
              have q := ps_setLc (own := ownOf S.N own) (spos := pos) (wi := LI T X.K it) (g := LG X.K g) (tt := LC T X.K t) (te := LE T X.K e') c.good.calm c.nd hN hlx (sw_true (by rw [c.hsc]; exact c.kind) hlx p2 p3) (sI it c r2) (by rw [c.hN, c.hsc]; exact blkOk_by r1) (fun s H C cl fp => sG (c.blk hk s H C cl fp) r3) (fun s H C cl fp => sC t (c.blk hk s H C cl fp) r4) (fun s H C cl fp => sE e' (c.blk hk s H C cl fp) r5) (set_of r6 X.env)
              rw [ownOf_snd] at q
              exact ps_imp q fun _ _ _ z => i_comp c.tm r7 (s_asgN c.tm z)
            · cases h2
          | cpy j l =>
            simp only [chkE] at h2
            split at h2
            · rename_i z zpos x2 xpos y npos scope2 cpos heq
              cases heq
              simp only [Bool.and_eq_true] at h2
              obtain ⟨⟨⟨r1, r2⟩, r3⟩, r4⟩ := h2
              have hk := blkC_kind r1
              have q := ps_setLc (own := ownOf S.N [j]) (ifs := []) (spos := pos) (wi := iSeq X.K (tVar l)) (g := gName j) (tt := fun _ H Q => Q true H) (te := tVar j) c.good.calm c.nd hN hlx (sw_true (by rw [c.hsc]; exact c.kind) hlx p2 p3) (pi_seq (name_of (pos := npos) c r2)) (by rw [c.hN, c.hsc]; exact blkOk_by r1) (fun s H C cl fp => tgt_of (pos := xpos) (c.blk hk s H C cl fp) r3) (fun s H C cl fp => pts_nil) (fun s H C cl fp => name_of (pos := zpos) (c.blk hk s H C cl fp) r4) (set_of rfl X.env)
              rw [ownOf_snd] at q
              exact ps_imp q fun _ _ _ z => i_cpy (s_asgN c.tm z)
            · cases h2
          | compk _ _ _ _ _ => cases h4
          | _ => simp [chkE] at h2
        · have hlx : X.env.scope.names.lookup x = some .cell := by rw [c.hsc]; exact isCell_of h3
          exact ps_imp (ps_set c.nd hN q1 (sE e c h2) (sw_cell hlx) q2) fun _ _ _ => s_asgN c.tm
      · cases h3
theorem sole_tup {ts : List Expr} {k : Nat} {p : Pos} {v : Expr} {l : Nat} {env : PySem.Env} : swapsWithSole [.Tuple ts k p] v l env = pure false := by
  show swapsWith v (some (.Tuple ts k p)) l env = pure false
  cases v <;> rfl
theorem stores_none {ts : List Expr} {k : Nat} {p : Pos} {v : Expr} {env : PySem.Env} (h : noTup v = true) : swappedStores [.Tuple ts k p] v env = pure none := by
  cases v <;> first | rfl | cases h
theorem tup_st (c : CxOk T X S) {g : CG} {e : CE} {ts : List Expr} {k : Nat} {p pos : Pos} {v : Expr} (h1 : chkG S g (.Tuple ts k p) = true) (h2 : chkE S e v = true) (h3 : tupOk S ts v = true) : PS X (.Assign [.Tuple ts k p] v pos) (LS T X.K xw (.asg g e)) := by
  have hw : swappedStores [.Tuple ts k p] v X.env = pure none := by
    unfold tupOk at h3
    rw [Bool.or_eq_true] at h3
    rcases h3 with h3 | h3
    · exact stores_none h3
    · rw [List.any_eq_true] at h3
      obtain ⟨t, m1, m2⟩ := h3
      cases v with
      | Tuple vs k2 p2 =>
        refine sw_none ⟨t, m1, fun x q e => ?_⟩
        subst e
        have m2 : (!isLoc S.sc x) = true := m2
        intro z
        have z : X.env.scope.names.lookup x = some .local := z
        rw [c.hsc] at z
        unfold isLoc at m2
        rw [z] at m2
        cases m2
      | _ => exact stores_none rfl
  cases g with
  | name i => simp [chkG] at h1
  | tup is => exact ps_imp (ps_asg (sE e c h2) (sG c h1) sole_tup hw rfl) fun _ _ _ => s_asgT c.tm
theorem sub_as {o i : Expr} {pos : Pos} {env : PySem.Env} (h : noSlice i = true) : ∀ v, assign (.Subscript o i pos) env v = (do
      let ov ← holding [v] (eval o env)
      let iv ← holding [v, ov] (eval i env)
      standAt pos
      holding [v, ov, iv] (setItem ov iv v)
      release [v, ov, iv] []) := by
  intro v
  cases i <;> first | rfl | cases h
theorem aug_st {i : Expr} (h : noSlice i = true) : ∀ ov iv new, augStore i ov iv new = (do holding [new, ov, iv] (setItem ov iv new); release [new, ov, iv] []; pure .next) := by
  intro ov iv new
  cases i <;> first | rfl | cases h
theorem sub_sw {o i v : Expr} {p : Pos} {l : Nat} {env : PySem.Env} (h : noComp v = true) : swapsWithSole [.Subscript o i p] v l env = pure false := by
  show swapsWith v (some (.Subscript o i p)) l env = pure false
  exact swap_of h _ _ _
end
/-- what a body that may raise has to be told -/
def TkOk (T : Tb) (S : SC) (X : Cx) (xw : XW) : Prop := S.ex = true → xw.cn = T.cn ∧ xw.fx = T.fx ∧ L2.Takes X fun cls d _ H => xw.W cls d H
mutual
theorem sS {T : Tb} {xw : XW} : ∀ (c : CS) {X : Cx} {S : SC} {s : Stmt}, CxOk T X S → TkOk T S X xw → chkS S c s = true → PS X s (LS T X.K xw c)
  | .asg g e, X, S, s, k, kt, h => by
    simp only [chkS] at h
    split at h
    · simp only [Bool.and_eq_true] at h
      exact set_st k h.1.1.1 h.1.1.2 h.1.2 h.2
    · simp only [Bool.and_eq_true] at h
      exact tup_st k h.1.1 h.1.2 h.2
    · cases h
  | .par i j a b, X, S, s, k, kt, h => by
    simp only [chkS] at h
    split at h
    · simp only [Bool.and_eq_true, decide_eq_true_eq, Bool.not_eq_true'] at h
      obtain ⟨⟨⟨⟨⟨⟨⟨⟨h1, h2⟩, h3⟩, h4⟩, h8⟩, h9⟩, h12⟩, h13⟩, hh⟩ := h
      rw [Bool.or_eq_true] at hh
      rcases hh with hh | hh
      · simp only [Bool.and_eq_true, decide_eq_true_eq, Bool.not_eq_true'] at hh
        obtain ⟨⟨⟨⟨h5, h6⟩, h7⟩, h10⟩, h11⟩ := hh
        have hx := isLoc_of h5
        have hy := isLoc_of h6
        rw [← k.hsc] at hx hy
        refine ps_imp (ps_par k.good.calm k.nd (by rw [k.hN]; exact h1) (by rw [k.hN]; exact h2) h3 hx hy (pa_cons (sE a k h12) (pa_cons (sE b k h13) pa_nil (star_of h9)) (star_of h8)) (sw_some (by rw [k.hsc]; exact k.kind) hx hy h7 h4 h8 h9 h10 h11) sole_tup) fun _ _ _ => s_par k.tm
      · simp only [Bool.and_eq_true, Bool.or_eq_true] at hh
        obtain ⟨⟨h5, h6⟩, h7⟩ := hh
        obtain ⟨q1, q2⟩ := loc_of k h5
        obtain ⟨q3, q4⟩ := loc_of k h6
        have no : ∀ z : Str, (!isLoc S.sc z) = true → X.env.kindOf z ≠ some .local := fun z hz e => by
          have e : X.env.scope.names.lookup z = some .local := e
          rw [k.hsc] at e
          unfold isLoc at hz
          rw [e] at hz
          cases hz
        have sw : ∀ {k1 k2 : Nat} {p1 p2 p3 p4 : Pos} {u v : Expr}, swappedStores [.Tuple [.Name _ p1, .Name _ p2] k1 p3] (.Tuple [u, v] k2 p4) X.env = pure none := fun {k1 k2 p1 p2 p3 p4 u v} => by
          rcases h7 with h7 | h7
          · exact sw_none ⟨_, List.mem_cons_self, fun z q e => by cases e; exact no _ h7⟩
          · exact sw_none ⟨_, List.mem_cons_of_mem _ List.mem_cons_self, fun z q e => by cases e; exact no _ h7⟩
        exact ps_imp (ps_parC k.good.calm k.nd (by rw [k.hN]; exact h1) (by rw [k.hN]; exact h2) q1 q2 q3 q4 (pa_cons (sE a k h12) (pa_cons (sE b k h13) pa_nil (star_of h9)) (star_of h8)) sw sole_tup) fun _ _ _ => s_par k.tm
    · cases h
  | .sub i n e, X, S, s, k, kt, h => by
    simp only [chkS] at h
    split at h
    · simp only [Bool.and_eq_true] at h
      obtain ⟨⟨⟨⟨h1, h2⟩, h3⟩, h4⟩, h5⟩ := h
      refine ps_imp (ps_asg (sE e k h3) (pg_sub (name_of k h1) (sE n k h2) set_list (sub_as h5)) (sub_sw h4) rfl rfl) fun _ _ _ => s_sub k.tm
    · cases h
  | .aug i o e, X, S, s, k, kt, h => by
    simp only [chkS] at h
    split at h
    · simp only [Bool.and_eq_true] at h
      obtain ⟨⟨⟨h1, h2⟩, h3⟩, h4⟩ := h
      have h1' := h1
      unfold tgtIs at h1'
      simp only [Bool.and_eq_true, decide_eq_true_eq] at h1'
      obtain ⟨hi, hl⟩ := h1'
      obtain ⟨q1, q2⟩ := loc_of k hl
      rename_i x px op _ _ 
      have hN : X.N[i]? = some x := by rw [k.hN]; exact hi
      cases o with
      | add =>
        cases op <;> first | (cases h2; done) | skip
        exact ps_imp (ps_aug k.nd hN q1 (sE e k h4) ip_add q2) fun _ _ _ => s_aug k.tm (.inl ⟨rfl, rfl⟩)
      | sub =>
        cases op <;> first | (cases h2; done) | skip
        exact ps_imp (ps_aug k.nd hN q1 (sE e k h4) ip_sub q2) fun _ _ _ => s_aug k.tm (.inr ⟨rfl, rfl⟩)
      | _ => cases h3
    · cases h
  | .augS i n e, X, S, s, k, kt, h => by
    simp only [chkS] at h
    split at h
    · simp only [Bool.and_eq_true] at h
      obtain ⟨⟨⟨h1, h2⟩, h3⟩, h4⟩ := h
      exact ps_imp (ps_augS (name_of k h1) (sE n k h2) get_list (sE e k h3) ip_add set_list (aug_st h4)) fun _ _ _ => s_augS k.tm
    · cases h
  | .dset i n e, X, S, s, k, kt, h => by
    simp only [chkS] at h
    split at h
    · simp only [Bool.and_eq_true] at h
      obtain ⟨⟨⟨⟨h1, h2⟩, h3⟩, h4⟩, h5⟩ := h
      refine ps_imp (ps_asg (sE e k h3) (pg_sub (name_of k h1) (sE n k h2) (pset_or (set_dn k.good.units) (set_dK k.good.units)) (sub_as h5)) (sub_sw h4) rfl rfl) fun _ _ _ z => ?_
      have q := s_dset k.tm z
      rw [k.hW] at q
      exact q
    · cases h
  | .expr e, X, S, s, k, kt, h => by
    simp only [chkS] at h
    split at h
    · simp only [Bool.and_eq_true] at h
      exact ps_imp (ps_expr (sE e k h.1) (swap_of h.2 _ _ _)) fun _ _ _ => s_expr k.tm
    · cases h
  | .ret e, X, S, s, k, kt, h => by
    simp only [chkS] at h
    split at h
    · exact ps_imp (ps_ret (sE e k h)) fun _ _ _ => s_ret k.tm
    · cases h
  | .ite c a b, X, S, s, k, kt, h => by
    simp only [chkS] at h
    split at h
    · simp only [Bool.and_eq_true] at h
      exact ps_imp (ps_if (sT c k h.1.1) (sB a k kt h.1.2) (sB b k kt h.2)) fun _ _ _ => s_ite k.tm
    · cases h
  | .for_ g it b, X, S, s, k, kt, h => by
    simp only [chkS] at h
    split at h
    · simp only [Bool.and_eq_true] at h
      exact ps_imp (ps_for k.pass k.good.calm (sI it k h.1.1.2) (sG k h.1.1.1) (sB b k kt h.1.2) (set_of h.2 X.env)) fun _ _ _ => s_for k.tm
    · cases h
  | .while_ c b, X, S, s, k, kt, h => by
    simp only [chkS] at h
    split at h
    · simp only [Bool.and_eq_true] at h
      exact ps_imp (ps_while k.pass (sT c k h.1) (sB b k kt h.2)) fun _ _ _ => s_while k.tm
    · cases h
  | .brk, X, S, s, k, kt, h => by
    simp only [chkS] at h
    split at h
    · refine ps_imp ps_break fun _ _ _ ⟨F, G, ρ, hK, r, ev⟩ => ?_
      exact ev _ G _ (Same.refl G) r
    · cases h
  | .cont, X, S, s, k, kt, h => by
    simp only [chkS] at h
    split at h
    · refine ps_imp ps_continue fun _ _ _ ⟨F, G, ρ, hK, r, ev⟩ => ?_
      exact ev _ G _ (Same.refl G) r
    · cases h
  | .pass, X, S, s, k, kt, h => by
    simp only [chkS] at h
    split at h
    · refine ps_imp ps_pass fun _ _ _ ⟨F, G, ρ, hK, r, ev⟩ => ?_
      exact ev _ G _ (Same.refl G) r
    · cases h
  | .never, X, S, s, k, kt, h => ps_imp ps_never fun _ _ _ ⟨F, G, ρ, hK, r, ev⟩ => ev
  | .raise e, X, S, s, k, kt, h => by
    simp only [chkS] at h
    split at h
    · simp only [Bool.and_eq_true, decide_eq_true_eq] at h
      obtain ⟨⟨⟨⟨h1, h0⟩, h2⟩, h3⟩, h4⟩ := h
      obtain ⟨q1, q2, q3⟩ := kt h1
      subst h2
      exact ps_imp (ps_raise k.good.calm q3 (k.mke h0 (sE e k h4) h3)) fun _ _ _ => s_raise k.tm q1 q2
    · cases h
  | .xcall n es, X, S, s, k, kt, h => by
    simp only [chkS] at h
    split at h
    · simp only [Bool.and_eq_true, decide_eq_true_eq, Bool.not_eq_true'] at h
      obtain ⟨⟨⟨⟨⟨h1, h2⟩, h3⟩, h4⟩, h5⟩, h6⟩ := h
      obtain ⟨q1, q2, q3⟩ := kt h1
      obtain ⟨f, fd, ps, lv, p1, p2, p3, p4, p5⟩ := k.xfns n h2
      rw [h3] at p1
      exact ps_imp (ps_expr (pe_call p5 (p4.mono (by omega)) (glo_of k h4) p1 p2 p3 .nil (passes_call q3 fun _ _ _ _ z => z) (sA es k h6) h5 (star_of (chkA_head h6)) (tail_star h6 _ _)) (swap_of rfl _ _ _)) fun _ _ _ => s_xcall k.tm q1 q2
    · cases h
  | .sub2 i n l a b, X, S, s, k, kt, h => by
    simp only [chkS] at h
    split at h
    · simp only [Bool.and_eq_true] at h
      obtain ⟨⟨⟨⟨⟨⟨⟨⟨⟨h1, h2⟩, h3⟩, h4⟩, h5⟩, h6⟩, h7⟩, h8⟩, h9⟩, h10⟩ := h
      refine ps_imp (ps_asg (pe_tup (sDsp (.cons a (.cons b .nil)) k (by simp only [chkD, h7, h8, h9, h10, Bool.and_self, List.isEmpty_nil])))
        (pg_tup k.good.calm (pgs_cons (pg_sub (name_of k h1) (sE n k h3) set_list (sub_as h5)) (pgs_cons (pg_sub (name_of k h2) (sE l k h4) set_list (sub_as h6)) pgs_nil))) sole_tup (sw_none ⟨_, List.mem_cons_self, fun x q e => by cases e⟩) rfl) fun _ _ _ => s_sub2 k.tm
    · cases h
theorem sB {T : Tb} {xw : XW} : ∀ (c : List CS) {X : Cx} {S : SC} {ss : List Stmt}, CxOk T X S → TkOk T S X xw → chkB S c ss = true → PSs X ss (LB T X.K xw c)
  | [], X, S, ss, k, kt, h => by
    simp only [chkB, List.isEmpty_iff] at h
    subst h
    refine pss_imp pss_nil fun _ _ _ ⟨F, G, ρ, hK, r, ev⟩ => ?_
    exact ev _ G _ (Same.refl G) r
  | c :: cs, X, S, ss, k, kt, h => by
    simp only [chkB] at h
    split at h
    · simp only [Bool.and_eq_true] at h
      refine pss_imp (pss_cons (sS c k kt h.1) (sB cs k kt h.2)) fun D σ H ⟨F, G, ρ, hK, r, ev⟩ => ?_
      simp only [evB] at ev
      refine ⟨F, G, ρ, hK, r, evS_mono k.tm c ?_ ev⟩
      refine ⟨fun ρ' q σ' G' H' g rl => ⟨F, G', ρ', hK, rl, evB_mono k.tm cs (EnL.mono g) q⟩, fun r ρ' q => q, fun ρ' q => q, fun ρ' q => q, fun d ρ' q => q⟩
    · cases h
end
end DI

set_option Elab.async false
set_option linter.all false
set_option autoImplicit false
set_option maxRecDepth 100000
set_option maxHeartbeats 2000000
/-! DI4: a def by its body in the small language. -/
namespace DI
open PySem PySem.Spec PyProof.Rows L2
theorem fnG_of {P : Program} {w : World} {K : PySem.W.Frag} {mg : Str → Option Value} {base : Heap} {gd : Bool} {k : Nat} {f : Addr} {name qual : Str} {params : Arguments} {body : List Stmt} {scope : Scope} {dV kV doc pm cdv ct oc : Value} {an od : Option Addr} {osl : Array (Option Value)}
    {N ps : List Str} {sp : Sp} (lk : K.lookup f = some ⟨oc, od, .func (PySem.W.fnOf name qual params body scope dV kV doc pm an cdv ct), osl⟩) (hcd : PySem.W.codeIn K cdv qual = true) (Z : FnScope N ps scope) (len : ∀ vs H Q E, sp vs H Q E → vs.length = ps.length)
    (hb0 : ∀ (A : Around) (outer : List PySem.Env) (s : Shared) (H : Hp) (vs : List V) (Q : VK) (E : XK), (gd = true → A.guards = some []) → Room k (A.deeper (envOfC qual scope s.heap.objs.size f cdv)) → sp vs H Q E →
      ∃ t, PSs (cxOf CX0 P w K mg base N qual scope f cdv A outer s H E) body t ∧ t { nx := fun _ H' => Q .non H', rt := Q } (start N vs) H) :
    FnG P w K mg base gd (k + 1) f (PySem.W.fnOf name qual params body scope dV kV doc pm an cdv ct) ps sp := by
  constructor
  · exact len
  intro A outer s H args us vs Q E hg hr e0 hb rv hsp
  have back : ∀ b o, base.get? b = some o → s.heap.get? b = some o := fun b o e => (e0.bs b o e).1
  have KX : K.In s.heap := e0.mod.kin.keeps back
  have nolim : s.heap.NoLimit := e0.mod.nolimit.keeps back
  refine codeAny_call_function hr.depth (KX _ _ lk) rfl Z.co Z.gen rfl (PySem.W.codeRec_of KX hcd) (hb _ _ _ _ (wpAny_newFunctionEnv_cells Z.kind ?_ ?_))
  · rintro ⟨n, v⟩ hm
    exact (Z.par n (List.of_mem_zip hm).1).imp id fun q => ⟨q, PySem.W.cellsFrom_some _ _ _ (.inl q)⟩
  intro env he s1 x
  subst he
  refine ⟨nolim.keeps x.toInCall.keep, codeAny_func ?_⟩
  obtain ⟨t, ht, hq⟩ := hb0 A outer s H vs Q E hg (hr.deeper _) hsp
  have I := inv_start (CX := CX0) (E := E) Z hr.hd e0 (len _ _ _ _ hsp) rv x
  refine wpAny_mono (ht.run [] s1 _ H _ I hq) ?_ fun _ _ z => z
  intro fl s2 z
  cases fl with
  | next =>
    obtain ⟨σ2, H2, J, q⟩ := z
    exact ⟨.non, H2, J.os, J.bare, J.base, J.hok, rfl, q⟩
  | ret u =>
    obtain ⟨v, σ2, H2, J, r2, q⟩ := z
    exact ⟨v, H2, J.os, J.bare, J.base, J.hok, r2, q⟩
  | brk =>
    obtain ⟨_, _, _, q⟩ := z
    exact q.elim
  | cont =>
    obtain ⟨_, _, _, q⟩ := z
    exact q.elim

/-- where a def ends -/
def finE (β : Option Bag) (P : R → Prop) : En where
  nx := fun ρ => ρ.bag = β ∧ P (.fz .non)
  rt := fun r ρ => ρ.bag = β ∧ (match r with
    | .al i => (match ρ.sl[i]? with
      | some (.ow d) => P (.ow d)
      | _ => False)
    | .fz d => P (.fz d)
    | .ow d => P (.ow d))
  bk := fun _ => False
  ct := fun _ => False
/-- where it starts -/
def sta (n : Nat) (ds : List D) (β : Option Bag) : Sta := ⟨ds.map .fz ++ List.replicate (n - ds.length) .un, β⟩
theorem start_rl {K : PySem.W.Frag} {N : List Str} {G H : Hp} {β : Option Bag} {vs : List V} {ds : List D} (hs : Same G H) (hb : ∀ b, β = some b → BagOk K G H b) (ra : RpA K G vs ds) :
    Rl ⟨K, fun a => H a ≠ none ∧ G a = none ∧ nbag β a ∧ ntb β H a, H⟩ G H (start N vs) (sta N.length ds β) := by
  have hl := ra.length
  have at_ : ∀ (i : Nat) (m : M), (sta N.length ds β).sl[i]? = some m → (∃ d, ds[i]? = some d ∧ m = .fz d) ∨ m = .un := fun i m e => by
    have e : (ds.map M.fz ++ List.replicate (N.length - ds.length) M.un)[i]? = some m := e
    rw [List.getElem?_append] at e
    split at e
    · rw [List.getElem?_map] at e
      cases q : ds[i]? with
      | none => rw [q] at e; cases e
      | some d => rw [q] at e; cases e; exact .inl ⟨d, rfl, rfl⟩
    · rw [List.getElem?_replicate] at e
      split at e
      · cases e; exact .inr rfl
      · cases e
  refine ⟨hs, fun a h => ⟨h.2.1, rfl, h.1, h.2.2.1, h.2.2.2⟩, ?_, fun i d e => ?_, fun i d e => ?_, fun i j d e a q1 => ?_, hb, fun b i d h e => ?_⟩
  · show (vs.map some ++ List.replicate (N.length - vs.length) none).length = (ds.map M.fz ++ List.replicate (N.length - ds.length) M.un).length
    simp [hl]
  · rcases at_ i _ e with ⟨d', q1, q2⟩ | q
    · cases q2
      obtain ⟨v, q3, q4⟩ := ra.get q1
      refine ⟨v, ?_, q4⟩
      show (vs.map some ++ List.replicate (N.length - vs.length) none)[i]? = some (some v)
      rw [List.getElem?_append_left (by rw [List.length_map]; exact lt_of q3), List.getElem?_map, q3]
      rfl
    · cases q
  · rcases at_ i _ e with ⟨d', q1, q2⟩ | q
    · cases q2
    · cases q
  · rcases at_ i _ q1 with ⟨d', q1, q2⟩ | q
    · cases q2
    · cases q
  · rcases at_ i _ e with ⟨d', q1, q2⟩ | q
    · cases q2
    · cases q
theorem end_ok {K : PySem.W.Frag} {G H : Hp} {β : Option Bag} (hb : ∀ b, β = some b → BagOk K G H b) {σ' : L2.St} {ρ' : Sta} {G' H' : Hp} (e : ρ'.bag = β) (g : Same G G') (r : Rl ⟨K, fun a => H a ≠ none ∧ G a = none ∧ nbag β a ∧ ntb β H a, H⟩ G' H' σ' ρ') : Ok2 K β G H G' H' := by
  refine ⟨g, r.sub, fun a h n nt => ?_, fun b h => r.bg b (e.trans h)⟩
  by_cases q : nbag β a
  · obtain ⟨q1, q2, q3, q4⟩ := r.fr a ⟨h, n, q, nt⟩
    exact ⟨q1, fun _ => q2⟩
  · refine ⟨?_, fun z => absurd z q⟩
    unfold nbag at q
    obtain ⟨b, hb, hne⟩ : ∃ b, β = some b ∧ b.1 = a := by
      cases hβ : β with
      | none => exact absurd (fun b z => by rw [hβ] at z; cases z) q
      | some b =>
        refine ⟨b, rfl, ?_⟩
        by_cases hba : b.1 = a
        · exact hba
        · exact absurd (fun b' z => by rw [hβ] at z; cases z; exact hba) q
    have := (r.bg b (e.trans hb)).2.1
    rw [hne] at this
    exact this
theorem end_le {K : PySem.W.Frag} {G H : Hp} {β : Option Bag} {Q : VK} {xw : XW} (hs : Same G H) (hb : ∀ b, β = some b → BagOk K G H b) : (finE β fun o => ∀ v G' H', Ok2 K β G H G' H' → RO K β G' H' H v o → Q v H').Le (EnL xw ⟨K, fun a => H a ≠ none ∧ G a = none ∧ nbag β a ∧ ntb β H a, H⟩ G { nx := fun _ H' => Q .non H', rt := Q }) := by
  have ok : ∀ {σ' : L2.St} {ρ' : Sta} {G' H' : Hp}, ρ'.bag = β → Same G G' → Rl ⟨K, fun a => H a ≠ none ∧ G a = none ∧ nbag β a ∧ ntb β H a, H⟩ G' H' σ' ρ' → Ok2 K β G H G' H' := fun {σ' ρ' G' H'} e g r => end_ok hb e g r
  have new : ∀ {G' : Hp} {a : Addr}, Same G G' → ¬ (H a ≠ none ∧ G a = none ∧ nbag β a ∧ ntb β H a) → G' a = none → nbag β a → nw0 β H a := fun {G' a} g np gn nb => by
    intro o q
    cases q2 : G a with
    | none =>
      refine Classical.byContradiction fun z => np ⟨by rw [q]; exact nofun, q2, nb, fun b hb ps e => z ?_⟩
      rw [q] at e
      cases e
      exact ⟨b, ps, hb, rfl⟩
    | some o2 => rw [g _ _ q2] at gn; cases gn
  refine ⟨?_, ?_, fun ρ h => h.elim, fun ρ h => h.elim, fun d ρ h => h.elim⟩
  · rintro ρ ⟨e, h⟩ σ' G' H' g r
    exact h _ G' H' (ok e g r) .non
  · rintro r0 ρ ⟨e, h⟩ σ' v G' H' g r rr
    cases r0 with
    | fz d => exact h v G' H' (ok e g r) rr
    | ow d =>
      obtain ⟨a, rfl, n⟩ := rr
      exact h _ G' H' (ok e g r) ⟨a, rfl, new g n.np n.gn (e ▸ n.bg), n.gn, n.con⟩
    | al i =>
      simp only at h
      split at h
      · rename_i d hd
        obtain ⟨a, h1, h2, h3, h4⟩ := r.ow i d hd
        have hs2 : σ'[i]? = some (some v) := rr.2
        rw [h1] at hs2
        cases hs2
        exact h _ G' H' (ok e g r) ⟨a, rfl, new g h2 h3 (fun b hb z => r.bo b i d (e.trans hb) hd (by rw [z]; exact h1)), h3, h4⟩
      · exact h.elim

/-- .. by an error -/
def finX (β : Option Bag) (P : R → Prop) (Z : D → Prop) : En := { finE β P with xc := fun d ρ => ρ.bag = β ∧ Z d }
theorem endX_le {K : PySem.W.Frag} {G H : Hp} {β : Option Bag} {Q : VK} {E : XK} {cn : Addr} {fx : Str} (hs : Same G H) (hb : ∀ b, β = some b → BagOk K G H b) :
    (finX β (fun o => ∀ v G' H', Ok2 K β G H G' H' → RO K β G' H' H v o → Q v H') fun d => ∀ v dx G' H', Ok2 K β G H G' H' → H' dx = some (.xd [(fx, v)]) → Rp K G' v d → E (.ref cn) (some dx) H').Le
      (EnL ⟨cn, fx, E⟩ ⟨K, fun a => H a ≠ none ∧ G a = none ∧ nbag β a ∧ ntb β H a, H⟩ G { nx := fun _ H' => Q .non H', rt := Q }) := by
  have q := end_le (Q := Q) (xw := ⟨cn, fx, E⟩) hs hb
  refine ⟨q.nx, q.rt, q.bk, q.ct, ?_⟩
  rintro d ρ ⟨e, h⟩ σ' v dx G' H' g r hx rp
  exact h v dx G' H' (end_ok hb e g r) hx rp
/-- the facts that all defs of a text share -/
structure TxtOk (mg : Str → Option Value) (base : Heap) : Prop where
  bfree : ∀ x ∈ bnames, mg x = none
  sys : ∃ o, base.get? sysModules = some o
def FnsOk (T : Tb) (P : Program) (w : World) (K : PySem.W.Frag) (mg : Str → Option Value) (base : Heap) (lv n : Nat) (fn : Nat → Str) (fg : Nat → Bool) : Prop :=
  ∀ k, k < n → ∃ (f : Addr) (fd : FuncData) (ps : List Str), mg (fn k) = some (.ref f) ∧ PySem.W.keepIn K (.ref f) = true ∧ Binds K fd ps [] ∧ FnG P w K mg base (fg k) lv f fd ps (liftSp K (T.fn k))
/-- the defs that may end by an error -/
def XfnsOk (T : Tb) (P : Program) (w : World) (K : PySem.W.Frag) (mg : Str → Option Value) (base : Heap) (lv n : Nat) (xf : Nat → Str) : Prop :=
  ∀ k, k < n → ∃ (f : Addr) (fd : FuncData) (ps : List Str) (l : Nat), l + 2 ≤ lv ∧ mg (xf k) = some (.ref f) ∧ PySem.W.keepIn K (.ref f) = true ∧ Binds K fd ps [] ∧ FnOk P w K mg base (L2.CX P w) l f fd ps (liftSpX K T.cn T.fx (T.xfn k))
def GlsOk (T : Tb) (K : PySem.W.Frag) (mg : Str → Option Value) (n : Nat) (gl : Nat → Str) : Prop := ∀ k, k < n → ∃ v u, mg (gl k) = some u ∧ RelV v u ∧ ∀ G, Rp K G v (T.gl k)
def GdsOk (T : Tb) (w : World) (K : PySem.W.Frag) (mg : Str → Option Value) (n : Nat) (gn : Nat → Str) : Prop := ∀ k, k < n → ∃ d es m, mg (gn k) = some (.ref d) ∧ KDict K w d es m ∧ TabOf K d (T.gd k)
/-- the context of a def's body -/
theorem cx_ok {T : Tb} {P : Program} {w : World} {K : PySem.W.Frag} {mg : Str → Option Value} {base : Heap} {lv : Nat} {S : SC} {ps : List Str} {qual : Str} {f : Addr} {cdv : Value} {A : Around} {outer : List PySem.Env} {s : Shared} {H : Hp} {E : XK}
    (tm : T.Mono) (hW : T.W = (P, w)) (tx : TxtOk mg base) (Z : FnScope S.N ps S.sc) (hfm : S.fnm = fun _ => true) (hf : FnsOk T P w K mg base lv S.n S.fn S.fg) (hxf : XfnsOk T P w K mg base lv S.nx S.xf) (hg : GlsOk T K mg S.ng S.gl ∧ GdsOk T w K mg S.ngd S.gdn) (gu : S.gd = true → A.guards = some []) (hr : Room lv (A.deeper (envOfC qual S.sc s.heap.objs.size f cdv)))
    (hh : ∀ h, S.hd = some h → HeardAt T (cxOf CX0 P w K mg base S.N qual S.sc f cdv A outer s H E).nox h) (hx : S.ex = false) (hxr : S.rs = false) :
    CxOk T (cxOf CX0 P w K mg base S.N qual S.sc f cdv A outer s H E).nox S where
  good := ⟨rfl, by have := hr.un; show (A.deeper _).units + 65 < cLine; omega, tx.sys, by have := hr.un; show (A.deeper _).units + 75 < cLine; omega⟩
  hW := hW
  hN := rfl
  hsc := rfl
  hfn := hfm.symm
  kind := Z.kind
  nd := Z.nd
  tm := tm
  bfree := tx.bfree
  fns := fun k hk => by
    obtain ⟨f', fd, ps', h1, h2, h3, h4⟩ := hf k hk
    exact ⟨f', fd, ps', lv, h1, h2, h3, hr, h4⟩
  gd := gu
  xfns := fun k hk => by
    obtain ⟨f', fd, ps', l, h0, h1, h2, h3, h4⟩ := hxf k hk
    exact ⟨f', fd, ps', l, h1, h2, h3, hr.mono h0, h4⟩
  hrd := hh
  mke := fun e => by rw [hxr] at e; cases e
  gds := hg.2
  gls := hg.1
  pass := PassesOwn.never
/-- THE RULE for a def over data -/
theorem defG {T : Tb} {P : Program} {w : World} {K : PySem.W.Frag} {mg : Str → Option Value} {base : Heap} {lv : Nat} {S : SC} {f : Addr} {name qual : Str} {params : Arguments} {body : List Stmt} {dV kV doc pm cdv ct oc : Value} {an od : Option Addr} {osl : Array (Option Value)}
    {ps : List Str} {sp : DSp} {c : List CS} (lk : K.lookup f = some ⟨oc, od, .func (PySem.W.fnOf name qual params body S.sc dV kV doc pm an cdv ct), osl⟩) (hcd : PySem.W.codeIn K cdv qual = true) (Z : FnScope S.N ps S.sc)
    (tm : T.Mono) (hW : T.W = (P, w)) (tx : TxtOk mg base) (hfm : S.fnm = fun _ => true) (hf : FnsOk T P w K mg base lv S.n S.fn S.fg) (hxf : XfnsOk T P w K mg base lv S.nx S.xf) (hg : GlsOk T K mg S.ng S.gl ∧ GdsOk T w K mg S.ngd S.gdn) (hc : chkB S c body = true) (hx : S.ex = false) (hxr : S.rs = false)
    (hh : ∀ (A : Around) (outer : List PySem.Env) (s : Shared) (H : Hp) (E : XK) (h : Str), S.hd = some h → Room lv (A.deeper (envOfC qual S.sc s.heap.objs.size f cdv)) → HeardAt T (cxOf CX0 P w K mg base S.N qual S.sc f cdv A outer s H E).nox h)
    (ar : ∀ β ds Q, sp β ds Q → ds.length = ps.length) (hb : ∀ β ds Q, sp β ds Q → evB T c (sta S.N.length ds β) (finE β Q)) :
    FnG P w K mg base S.gd (lv + 1) f (PySem.W.fnOf name qual params body S.sc dV kV doc pm an cdv ct) ps (liftSp K sp) := by
  refine fnG_of lk hcd Z (fun vs H Q E h => ?_) fun A outer s H vs Q E gu hr h => ?_
  · obtain ⟨G, β, ds, _, _, ra, h⟩ := h
    rw [ra.length]
    exact ar _ _ _ h
  · obtain ⟨G, β, ds, hs, hbg, ra, h⟩ := h
    have cx := cx_ok (E := E) (outer := outer) (H := H) tm hW tx Z hfm hf hxf hg gu hr (fun h e => hh A outer s H E h e hr) hx hxr
    refine ⟨LB T K ⟨0, "", fun _ _ _ => False⟩ c, PSs.nox (sB c cx (fun e => by rw [hx] at e; cases e) hc), ⟨_, G, _, rfl, start_rl hs hbg ra, evB_mono tm c (end_le hs hbg) (hb _ _ _ h)⟩⟩
/-- the context of the body of a def that may end by an error -/
theorem cxX_ok {T : Tb} {P : Program} {w : World} {K : PySem.W.Frag} {mg : Str → Option Value} {base : Heap} {lv : Nat} {S : SC} {ps : List Str} {qual : Str} {f : Addr} {cdv : Value} {A : Around} {outer : List PySem.Env} {s : Shared} {H : Hp} {E : XK}
    (tm : T.Mono) (hW : T.W = (P, w)) (tx : TxtOk mg base) (Z : FnScope S.N ps S.sc) (hfm : S.fnm = fun _ => true) (hf : FnsOk T P w K mg base lv S.n S.fn S.fg) (hxf : XfnsOk T P w K mg base lv S.nx S.xf) (hg : GlsOk T K mg S.ng S.gl ∧ GdsOk T w K mg S.ngd S.gdn) (gu : S.gd = false) (hd : S.hd = none) (hr : Room lv (A.deeper (envOfC qual S.sc s.heap.objs.size f cdv)))
    (hk : S.rs = true → MkAt T (cxOf (L2.CX P w) P w K mg base S.N qual S.sc f cdv A outer s H E) S.nr) :
    CxOk T (cxOf (L2.CX P w) P w K mg base S.N qual S.sc f cdv A outer s H E) S where
  good := ⟨rfl, by have := hr.un; show (A.deeper _).units + 65 < cLine; omega, tx.sys, by have := hr.un; show (A.deeper _).units + 75 < cLine; omega⟩
  hW := hW
  hN := rfl
  hsc := rfl
  hfn := hfm.symm
  kind := Z.kind
  nd := Z.nd
  tm := tm
  bfree := tx.bfree
  fns := fun k hk => by
    obtain ⟨f', fd, ps', h1, h2, h3, h4⟩ := hf k hk
    exact ⟨f', fd, ps', lv, h1, h2, h3, hr, h4⟩
  gd := fun e => by rw [gu] at e; cases e
  xfns := fun k hk => by
    obtain ⟨f', fd, ps', l, h0, h1, h2, h3, h4⟩ := hxf k hk
    exact ⟨f', fd, ps', l, h1, h2, h3, hr.mono h0, h4⟩
  hrd := fun h e => by rw [hd] at e; cases e
  mke := hk
  gds := hg.2
  gls := hg.1
  pass := passes_of rfl
/-- THE RULE for a def that may end by an error -/
theorem defX {T : Tb} {P : Program} {w : World} {K : PySem.W.Frag} {mg : Str → Option Value} {base : Heap} {lv : Nat} {S : SC} {f : Addr} {name qual : Str} {params : Arguments} {body : List Stmt} {dV kV doc pm cdv ct oc : Value} {an od : Option Addr} {osl : Array (Option Value)}
    {ps : List Str} {sp : DSpX} {c : List CS} (lk : K.lookup f = some ⟨oc, od, .func (PySem.W.fnOf name qual params body S.sc dV kV doc pm an cdv ct), osl⟩) (hcd : PySem.W.codeIn K cdv qual = true) (Z : FnScope S.N ps S.sc)
    (tm : T.Mono) (hW : T.W = (P, w)) (tx : TxtOk mg base) (hfm : S.fnm = fun _ => true) (hf : FnsOk T P w K mg base lv S.n S.fn S.fg) (hxf : XfnsOk T P w K mg base lv S.nx S.xf) (hg : GlsOk T K mg S.ng S.gl ∧ GdsOk T w K mg S.ngd S.gdn) (gu : S.gd = false) (hd : S.hd = none) (hc : chkB S c body = true)
    (hk : ∀ (A : Around) (outer : List PySem.Env) (s : Shared) (H : Hp) (E : XK), Room lv (A.deeper (envOfC qual S.sc s.heap.objs.size f cdv)) → S.rs = true → MkAt T (cxOf (L2.CX P w) P w K mg base S.N qual S.sc f cdv A outer s H E) S.nr)
    (ar : ∀ β ds Q Z, sp β ds Q Z → ds.length = ps.length) (hb : ∀ β ds Q Z, sp β ds Q Z → evB T c (sta S.N.length ds β) (finX β Q Z)) :
    FnOk P w K mg base (L2.CX P w) (lv + 1) f (PySem.W.fnOf name qual params body S.sc dV kV doc pm an cdv ct) ps (liftSpX K T.cn T.fx sp) := by
  refine fn_of lk hcd Z (fun vs H Q E h => ?_) fun A outer s H vs Q E hr h => ?_
  · obtain ⟨G, β, ds, _, _, ra, h⟩ := h
    rw [ra.length]
    exact ar _ _ _ _ h
  · obtain ⟨G, β, ds, hs, hbg, ra, h⟩ := h
    have cx := cxX_ok (E := E) (outer := outer) (H := H) tm hW tx Z hfm hf hxf hg gu hd hr (hk A outer s H E hr)
    refine ⟨LB T K ⟨T.cn, T.fx, E⟩ c, sB c cx (fun _ => ⟨rfl, rfl, takes_of (E := E) rfl rfl rfl rfl⟩) hc, ⟨_, G, _, rfl, start_rl hs hbg ra, evB_mono tm c (endX_le hs hbg) (hb _ _ _ _ h)⟩⟩
end DI

set_option Elab.async false
set_option linter.all false
set_option autoImplicit false
set_option maxRecDepth 100000
set_option maxHeartbeats 2000000
/-! DI5: bodies that leave slot 0 where it is (the draws of a law change the bag that they are handed). -/
namespace DI
open PySem PySem.Spec PyProof.Rows L2
mutual
def chkP (S : SC) : CS → Stmt → Bool
  | .asg g e, s => match g, s with
    | .name i, .Assign [.Name x _] v _ => tgtIs S i x && chkE S e v && noComp v && (i != 0)
    | _, _ => false
  | .sub i k e, s => chkS S (.sub i k e) s
  | .augS i k e, s => chkS S (.augS i k e) s
  | .ret e, s => chkS S (.ret e) s
  | .ite c a b, s => match s with
    | .If t x y _ => chkT S c t && chkPB S a x && chkPB S b y
    | _ => false
  | _, _ => false
def chkPB (S : SC) : List CS → List Stmt → Bool
  | [], ss => ss.isEmpty
  | c :: cs, ss => match ss with
    | s :: ss => chkP S c s && chkPB S cs ss
    | [] => false
end
def EnP (F : Fr) (G : Hp) (a : Addr) (D : Ends) : En where
  nx := fun ρ' => ∀ σ' G' H', Same G G' → Rl F G' H' σ' ρ' → σ'[0]? = some (some (.ref a)) → D.nx σ' H'
  rt := fun r ρ' => ∀ σ' v G' H', Same G G' → Rl F G' H' σ' ρ' → σ'[0]? = some (some (.ref a)) → RR F G' H' σ' ρ' v r → D.rt v H'
  bk := fun _ => False
  ct := fun _ => False
def LSP (T : Tb) (K : PySem.W.Frag) (c : CS) : TS := fun D σ H => ∃ F G ρ a, F.K = K ∧ Rl F G H σ ρ ∧ σ[0]? = some (some (.ref a)) ∧ evS T c ρ (EnP F G a D)
def LBP (T : Tb) (K : PySem.W.Frag) (c : List CS) : TS := fun D σ H => ∃ F G ρ a, F.K = K ∧ Rl F G H σ ρ ∧ σ[0]? = some (some (.ref a)) ∧ evB T c ρ (EnP F G a D)
theorem EnP.mono {F : Fr} {G G' : Hp} {a : Addr} {D : Ends} (g : Same G G') : (EnP F G a D).Le (EnP F G' a D) :=
  ⟨fun ρ h σ' G2 H2 g2 => h σ' G2 H2 (g.trans g2), fun r ρ h σ' v G2 H2 g2 => h σ' v G2 H2 (g.trans g2), fun ρ h => h, fun ρ h => h, fun d ρ h => h⟩
section
variable {T : Tb} {K : PySem.W.Frag} {σ : L2.St} {H : Hp} {D : Ends}
theorem p_asgN (tm : T.Mono) {i : Nat} {e : CE} (hi : i ≠ 0) (h : LSP T K (.asg (.name i) e) D σ H) : tAsg (LE T K e) (gName i) D σ H := by
  obtain ⟨F, G, ρ, a0, hK, r, h0, ev⟩ := h
  subst hK
  simp only [evS] at ev
  have h0' : ∀ x, (σ.set i x)[0]? = some (some (.ref a0)) := fun x => by rw [List.getElem?_set_ne hi]; exact h0
  refine ⟨F, G, ρ, rfl, r, evE_mono tm e (fun r1 ρ1 ev v1 G1 H1 g1 rl1 rr1 => ?_) ev⟩
  cases r1 with
  | ow d =>
    obtain ⟨a, rfl, n⟩ := rr1
    exact ev _ G1 H1 g1 (rl1.put_ow n) (h0' _)
  | fz d => exact ev _ G1 H1 g1 (rl1.put_fz rr1) (h0' _)
  | al j =>
    obtain ⟨G2, d, ρ2, g2, rl2, p, ev⟩ := keepR rl1 rr1 ev
    exact ev _ G2 H1 (g1.trans g2) (rl2.put_fz p) (h0' _)
theorem p_sub (tm : T.Mono) {i : Nat} {k e : CE} (h : LSP T K (.sub i k e) D σ H) : tAsg (LE T K e) (gSub (tVar i) (LE T K k) rSetL) D σ H := by
  obtain ⟨F, G, ρ, a0, hK, r, h0, ev⟩ := h
  subst hK
  simp only [evS] at ev
  refine ⟨F, G, ρ, rfl, r, evE_mono tm e (fun r1 ρ1 ev v1 G1 H1 g1 rl1 rr1 => ?_) ev⟩
  obtain ⟨G2, d, ρ2, g2, rl2, p, ⟨⟨x, hx⟩, ev⟩⟩ := keepR rl1 rr1 ev
  obtain ⟨a, h1, h2⟩ := rl2.ow i x hx
  refine ⟨.ref a, h1, F, G2, ρ2, rfl, rl2, evE_mono tm k (fun r2 ρ3 ev v3 G3 H3 g3 rl3 rr3 => ?_) ev⟩
  split at ev
  · rename_i xs n hxs
    obtain ⟨j, hj, ev⟩ := ev
    obtain ⟨a', q1, q2, q3, ws, q4, q5⟩ := rl3.ow i _ hxs
    rw [h1] at q1
    cases q1
    cases rr3
    refine ⟨a, ws, n, j, rfl, rfl, q4, by rw [q5.length]; exact hj, ?_⟩
    exact ev σ G3 _ (g1.trans (g2.trans g3)) (rl3.mut hxs h1 ⟨_, upd_same, q5.set j (p.mono g3)⟩) h0
  · exact ev.elim
theorem p_augS (tm : T.Mono) {i : Nat} {k e : CE} (h : LSP T K (.augS i k e) D σ H) : tAugS (tVar i) (LE T K k) (LE T K e) (rIxL K) (ipI fun x y => x + y) rSetL D σ H := by
  obtain ⟨F, G, ρ, a0, hK, r, h0, ev⟩ := h
  subst hK
  simp only [evS] at ev
  obtain ⟨⟨x0, hx⟩, ev⟩ := ev
  obtain ⟨a, h1, h2⟩ := r.ow i _ hx
  refine ⟨.ref a, h1, F, G, ρ, rfl, r, evE_mono tm k (fun r1 ρ1 ev v1 G1 H1 g1 rl1 rr1 => ?_) ev⟩
  split at ev
  · rename_i xs n hxs
    obtain ⟨j, x, hj, hxj, ev⟩ := ev
    obtain ⟨a', q1, q2, q3, ws, q4, q5⟩ := rl1.ow i _ hxs
    rw [h1] at q1
    cases q1
    cases rr1
    obtain ⟨v, hv, rv⟩ := q5.get hxj
    cases rv
    have hat : atI ws n = some (.int x) := by
      unfold atI
      rw [q5.length, hj]
      exact hv
    refine ⟨a, ws, n, .int x, rfl, rfl, SqL.of q4, hat, F, G1, ρ1, rfl, rl1, evE_mono tm e (fun r2 ρ2 ev v2 G2 H2 g2 rl2 rr2 => ?_) ev⟩
    split at ev
    · rename_i ys y hys
      obtain ⟨hl, ev⟩ := ev
      obtain ⟨a', q1, q2, q3, ws2, q6, q7⟩ := rl2.ow i _ hys
      rw [h1] at q1
      cases q1
      cases rr2
      refine ⟨x, y, rfl, rfl, a, ws2, n, j, rfl, rfl, q6, by rw [q7.length, hl]; exact hj, ?_⟩
      exact ev σ G2 _ (g1.trans g2) (rl2.mut hys h1 ⟨_, upd_same, q7.set j (.int _)⟩) h0
    · exact ev.elim
  · exact ev.elim
theorem p_ret (tm : T.Mono) {e : CE} (h : LSP T K (.ret e) D σ H) : tRet (LE T K e) D σ H := by
  obtain ⟨F, G, ρ, a0, hK, r, h0, ev⟩ := h
  subst hK
  simp only [evS] at ev
  exact ⟨F, G, ρ, rfl, r, evE_mono tm e (fun r1 ρ1 ev v1 G1 H1 g1 rl1 rr1 => ev σ v1 G1 H1 g1 rl1 h0 rr1) ev⟩
theorem p_ite (tm : T.Mono) {c : CT} {a b : List CS} (h : LSP T K (.ite c a b) D σ H) : tIfS (LT T K c) (LBP T K a) (LBP T K b) D σ H := by
  obtain ⟨F, G, ρ, a0, hK, r, h0, ev⟩ := h
  subst hK
  simp only [evS] at ev
  refine ⟨F, G, ρ, rfl, r, evT_mono tm c (fun k ρ1 ev G1 H1 g1 rl1 => ?_) ev⟩
  cases k with
  | true => exact ⟨F, G1, ρ1, a0, rfl, rl1, h0, evB_mono tm a (EnP.mono g1) ev⟩
  | false => exact ⟨F, G1, ρ1, a0, rfl, rl1, h0, evB_mono tm b (EnP.mono g1) ev⟩
end
mutual
theorem sSP {T : Tb} : ∀ (c : CS) {X : Cx} {S : SC} {s : Stmt}, CxOk T X S → chkP S c s = true → PS X s (LSP T X.K c)
  | .asg g e, X, S, s, k, h => by
    simp only [chkP] at h
    split at h
    · simp only [Bool.and_eq_true, bne_iff_ne, ne_eq] at h
      obtain ⟨⟨⟨h1, h2⟩, h3⟩, h4⟩ := h
      unfold tgtIs at h1
      simp only [Bool.and_eq_true, decide_eq_true_eq] at h1
      obtain ⟨hi, hl⟩ := h1
      obtain ⟨q1, q2⟩ := loc_of k hl
      exact ps_imp (ps_set k.nd (by rw [k.hN]; exact hi) q1 (sE e k h2) (swap_of h3 _ _ _) q2) fun _ _ _ => p_asgN k.tm h4
    · cases h
  | .sub i n e, X, S, s, k, h => by
    simp only [chkP, chkS] at h
    split at h
    · simp only [Bool.and_eq_true] at h
      obtain ⟨⟨⟨⟨h1, h2⟩, h3⟩, h4⟩, h5⟩ := h
      exact ps_imp (ps_asg (sE e k h3) (pg_sub (name_of k h1) (sE n k h2) set_list (sub_as h5)) (sub_sw h4) rfl rfl) fun _ _ _ => p_sub k.tm
    · cases h
  | .augS i n e, X, S, s, k, h => by
    simp only [chkP, chkS] at h
    split at h
    · simp only [Bool.and_eq_true] at h
      obtain ⟨⟨⟨h1, h2⟩, h3⟩, h4⟩ := h
      exact ps_imp (ps_augS (name_of k h1) (sE n k h2) get_list (sE e k h3) ip_add set_list (aug_st h4)) fun _ _ _ => p_augS k.tm
    · cases h
  | .ret e, X, S, s, k, h => by
    simp only [chkP, chkS] at h
    split at h
    · exact ps_imp (ps_ret (sE e k h)) fun _ _ _ => p_ret k.tm
    · cases h
  | .ite c a b, X, S, s, k, h => by
    simp only [chkP] at h
    split at h
    · simp only [Bool.and_eq_true] at h
      exact ps_imp (ps_if (sT c k h.1.1) (sBP a k h.1.2) (sBP b k h.2)) fun _ _ _ => p_ite k.tm
    · cases h
  | .par _ _ _ _, _, _, _, _, h => by simp [chkP] at h
  | .aug _ _ _, _, _, _, _, h => by simp [chkP] at h
  | .dset _ _ _, _, _, _, _, h => by simp [chkP] at h
  | .expr _, _, _, _, _, h => by simp [chkP] at h
  | .for_ _ _ _, _, _, _, _, h => by simp [chkP] at h
  | .while_ _ _, _, _, _, _, h => by simp [chkP] at h
  | .brk, _, _, _, _, h => by simp [chkP] at h
  | .cont, _, _, _, _, h => by simp [chkP] at h
  | .pass, _, _, _, _, h => by simp [chkP] at h
  | .never, _, _, _, _, h => by simp [chkP] at h
  | .raise _, _, _, _, _, h => by simp [chkP] at h
  | .xcall _ _, _, _, _, _, h => by simp [chkP] at h
  | .sub2 _ _ _ _ _, _, _, _, _, h => by simp [chkP] at h
theorem sBP {T : Tb} : ∀ (c : List CS) {X : Cx} {S : SC} {ss : List Stmt}, CxOk T X S → chkPB S c ss = true → PSs X ss (LBP T X.K c)
  | [], X, S, ss, k, h => by
    simp only [chkPB, List.isEmpty_iff] at h
    subst h
    refine pss_imp pss_nil fun _ _ _ ⟨F, G, ρ, a, hK, r, h0, ev⟩ => ?_
    exact ev _ G _ (Same.refl G) r h0
  | c :: cs, X, S, ss, k, h => by
    simp only [chkPB] at h
    split at h
    · simp only [Bool.and_eq_true] at h
      refine pss_imp (pss_cons (sSP c k h.1) (sBP cs k h.2)) fun D σ H ⟨F, G, ρ, a, hK, r, h0, ev⟩ => ?_
      simp only [evB] at ev
      refine ⟨F, G, ρ, a, hK, r, h0, evS_mono k.tm c ?_ ev⟩
      exact ⟨fun ρ' q σ' G' H' g rl h1 => ⟨F, G', ρ', a, hK, rl, h1, evB_mono k.tm cs (EnP.mono g) q⟩, fun r ρ' q => q, fun ρ' q => q, fun ρ' q => q, fun d ρ' q => q⟩
    · cases h
end
end DI

set_option Elab.async false
set_option linter.all false
set_option autoImplicit false
set_option maxRecDepth 100000
set_option maxHeartbeats 400000
/-! DI5b: the draws of a law: _law_take, _law_bag. -/
namespace DI
open PySem PySem.Spec PyProof.Rows L2
def takeC : List CS := [.ite (.cmp .eq (.op2 .ix (.var 0) (.con (.int 0))) (.con (.int 0))) [.asg (.name 4) (.con (.int 0)), .ite (.cmp .lt (.op2 .ix (.var 0) (.con (.int 2))) (.bi .len (.cons (.op2 .ix (.var 0) (.con (.int 3))) .nil))) [.asg (.name 4) (.op2 .ix (.op2 .ix (.var 0) (.con (.int 3))) (.op2 .ix (.var 0) (.con (.int 2))))] [], .augS 0 (.con (.int 2)) (.con (.int 1)), .ite (.cmp .ge (.var 4) (.con (.int 1000000000000000000))) [.sub 0 (.con (.int 0)) (.var 4)] [], .asg (.name 5) (.op2 .add (.op2 .add (.op2 .mul (.op2 .ix (.var 0) (.con (.int 1))) (.con (.int 48271))) (.op2 .mod (.bi .int (.cons (.var 4) .nil)) (.con (.int 2147483647)))) (.op2 .mul (.con (.int 7919)) (.op2 .ix (.var 0) (.con (.int 2))))), .sub 0 (.con (.int 1)) (.op2 .mod (.bi .int (.cons (.var 5) .nil)) (.con (.int 2147483647)))] [], .ite (.cmp .gt (.op2 .ix (.var 0) (.con (.int 0))) (.con (.int 0))) [.asg (.name 6) (.op2 .mod (.bi .int (.cons (.op2 .ix (.var 0) (.con (.int 0))) .nil)) (.var 1)), .sub 0 (.con (.int 0)) (.op2 .fdiv (.op2 .ix (.var 0) (.con (.int 0))) (.var 1)), .ret (.var 6)] [], .asg (.name 2) (.op2 .mod (.bi .int (.cons (.op2 .mul (.op2 .add (.op2 .ix (.var 0) (.con (.int 1))) (.con (.int 1))) (.con (.int 39373))) .nil)) (.con (.int 1000000007))), .asg (.name 3) (.op2 .mod (.bi .int (.cons (.op2 .mul (.op2 .mod (.bi .int (.cons (.op2 .mul (.var 2) (.var 2)) .nil)) (.con (.int 998244353))) (.con (.int 30011))) .nil)) (.con (.int 998244353))), .ret (.op2 .mod (.bi .int (.cons (.op2 .fdiv (.var 3) (.con (.int 7))) .nil)) (.var 1))]
def bagC : List CS := [.ret (.lst (.cons (.con (.int 0)) (.cons (.con (.int 1234567891)) (.cons (.con (.int 0)) (.cons (.comp [1] (.name 1) (.seq (.slc (.var 0) .none (.some (.con (.int 63))))) .none (.bi .abs (.cons (.var 1) .nil))) .nil)))))]
/-- the bag's four cells -/
def BagD (cs : Addr) (ns : List Int) (d : D) : Prop := ∃ x m c : Int, d = .lst [.int x, .int m, .int c, .scr cs ns] ∧ 0 ≤ x ∧ 0 ≤ m ∧ m < 2147483647 ∧ 0 ≤ c
def takeE (cs : Addr) (ns : List Int) (n : Int) : En where
  nx := fun _ => False
  rt := fun r ρ => ∃ i d, r = .fz (.int i) ∧ 0 ≤ i ∧ i < n ∧ ρ.sl[0]? = some (.ow d) ∧ BagD cs ns d
  bk := fun _ => False
  ct := fun _ => False
abbrev bst (cs : Addr) (ns : List Int) (n x m c : Int) (s2 s3 s4 s5 s6 : M) : Sta := ⟨[.ow (.lst [.int x, .int m, .int c, .scr cs ns]), .fz (.int n), s2, s3, s4, s5, s6], none⟩
section
variable {T : Tb} {E : En} {cs : Addr} {ns : List Int} {n x m c : Int} {s2 s3 s4 s5 s6 : M}
theorem eqD_int {i j : Int} : eqD (.int i) (.int j) = decide (i = j) := by
  unfold eqD
  rw [D.py, D.py, PyData.eqv]
  exact (Bool.beq_eq_decide_eq i j)
theorem bx0 {Q : R → Sta → Prop} : evE T (.op2 .ix (.var 0) (.con (.int 0))) (bst cs ns n x m c s2 s3 s4 s5 s6) Q = Q (.fz (.int x)) (bst cs ns n x m c s2 s3 s4 s5 s6) := by
  simp only [evE, rd, sem2]
  exact propext ⟨fun ⟨d, e, q⟩ => by cases e; exact q, fun q => ⟨_, rfl, q⟩⟩
theorem bx1 {Q : R → Sta → Prop} : evE T (.op2 .ix (.var 0) (.con (.int 1))) (bst cs ns n x m c s2 s3 s4 s5 s6) Q = Q (.fz (.int m)) (bst cs ns n x m c s2 s3 s4 s5 s6) := by
  simp only [evE, rd, sem2]
  exact propext ⟨fun ⟨d, e, q⟩ => by cases e; exact q, fun q => ⟨_, rfl, q⟩⟩
theorem bx2 {Q : R → Sta → Prop} : evE T (.op2 .ix (.var 0) (.con (.int 2))) (bst cs ns n x m c s2 s3 s4 s5 s6) Q = Q (.fz (.int c)) (bst cs ns n x m c s2 s3 s4 s5 s6) := by
  simp only [evE, rd, sem2]
  exact propext ⟨fun ⟨d, e, q⟩ => by cases e; exact q, fun q => ⟨_, rfl, q⟩⟩
theorem bx3 {Q : R → Sta → Prop} : evE T (.op2 .ix (.var 0) (.con (.int 3))) (bst cs ns n x m c s2 s3 s4 s5 s6) Q = Q (.fz (.scr cs ns)) (bst cs ns n x m c s2 s3 s4 s5 s6) := by
  simp only [evE, rd, sem2]
  exact propext ⟨fun ⟨d, e, q⟩ => by cases e; exact q, fun q => ⟨_, rfl, q⟩⟩
theorem cmul_small {i j : Int} (h1 : 0 ≤ j) (h2 : j < 2147483648) : CMul i j := .inr ⟨by omega, by omega⟩
theorem cmul_left {i j : Int} (h1 : 0 ≤ i) (h2 : i < 2147483648) : CMul i j := .inl ⟨by omega, by omega⟩

theorem take_end (h0 : 0 < n) (h1 : n < 1073741824) (hx : 0 ≤ x) (hm : 0 ≤ m) (hm2 : m < 2147483647) (hc : 0 ≤ c) : evB T (takeC.drop 2) (bst cs ns n x m c s2 s3 s4 s5 s6) (takeE cs ns n) := by
  refine Exists.intro _ (And.intro rfl ?_)
  refine And.intro (cmul_small (by omega) (by omega)) ?_
  refine And.intro (by omega : (0:Int) < 1000000007) ?_
  show evB T [_, _] (bst cs ns n x m c (.fz (.int ((m + 1) * 39373 % 1000000007))) s3 s4 s5 s6) _
  generalize hb : (m + 1) * 39373 % 1000000007 = b
  have hb1 : 0 ≤ b := by omega
  have hb2 : b < 1000000007 := by omega
  refine And.intro (cmul_small hb1 (by omega)) ?_
  refine And.intro (by omega : (0:Int) < 998244353) ?_
  refine And.intro (cmul_small (by omega) (by omega)) ?_
  refine And.intro (by omega : (0:Int) < 998244353) ?_
  show evB T [_] (bst cs ns n x m c (.fz (.int b)) (.fz (.int (b * b % 998244353 * 30011 % 998244353))) s4 s5 s6) _
  generalize b * b % 998244353 * 30011 % 998244353 = d
  refine And.intro ⟨by omega, by omega⟩ ?_
  refine And.intro h0 ?_
  exact ⟨_, _, rfl, Int.emod_nonneg _ (by omega), Int.emod_lt_of_pos _ h0, rfl, x, m, c, rfl, hx, hm, hm2, hc⟩

theorem take_mid (h0 : 0 < n) (h1 : n < 1073741824) (hx : 0 ≤ x) (hm : 0 ≤ m) (hm2 : m < 2147483647) (hc : 0 ≤ c) : evB T (takeC.drop 1) (bst cs ns n x m c s2 s3 s4 s5 s6) (takeE cs ns n) := by
  refine Exists.intro _ (And.intro rfl ?_)
  show (if decide (0 < x) = true then evB T [_, _, _] _ _ else evB T [] _ _)
  by_cases hp : 0 < x
  · rw [if_pos (decide_eq_true hp)]
    refine Exists.intro _ (And.intro rfl ?_)
    refine And.intro h0 ?_
    show evB T [_, _] (bst cs ns n x m c s2 s3 s4 s5 (.fz (.int (x % n)))) _
    refine Exists.intro _ (And.intro rfl ?_)
    refine And.intro ⟨h0, h1⟩ ?_
    refine And.intro ⟨_, rfl⟩ ?_
    refine Exists.intro 0 (And.intro rfl ?_)
    show evB T [_] (bst cs ns n (x / n) m c s2 s3 s4 s5 (.fz (.int (x % n)))) _
    exact ⟨_, _, rfl, Int.emod_nonneg _ (by omega), Int.emod_lt_of_pos _ h0, rfl, _, m, c, rfl, Int.ediv_nonneg hx (by omega), hm, hm2, hc⟩
  · rw [if_neg (by simp [hp])]
    exact take_end h0 h1 hx hm hm2 hc
def takeF : List CS := [.asg (.name 5) (.op2 .add (.op2 .add (.op2 .mul (.op2 .ix (.var 0) (.con (.int 1))) (.con (.int 48271))) (.op2 .mod (.bi .int (.cons (.var 4) .nil)) (.con (.int 2147483647)))) (.op2 .mul (.con (.int 7919)) (.op2 .ix (.var 0) (.con (.int 2))))), .sub 0 (.con (.int 1)) (.op2 .mod (.bi .int (.cons (.var 5) .nil)) (.con (.int 2147483647)))]
def takeM : List CS := .augS 0 (.con (.int 2)) (.con (.int 1)) :: .ite (.cmp .ge (.var 4) (.con (.int 1000000000000000000))) [.sub 0 (.con (.int 0)) (.var 4)] [] :: takeF
theorem take_fin {k : Int} (h0 : 0 < n) (h1 : n < 1073741824) (hx : 0 ≤ x) (hm : 0 ≤ m) (hm2 : m < 2147483647) (hc : 0 ≤ c) (hk : 0 ≤ k) :
    evB T takeF (bst cs ns n x m (c + 1) s2 s3 (.fz (.int k)) s5 s6) { takeE cs ns n with nx := fun ρ1 => evB T (takeC.drop 1) ρ1 (takeE cs ns n) } := by
  refine Exists.intro _ (And.intro rfl ?_)
  refine And.intro (cmul_small (by omega) (by omega)) ?_
  refine And.intro (by omega : (0:Int) < 2147483647) ?_
  refine Exists.intro _ (And.intro rfl ?_)
  refine And.intro (cmul_left (by omega) (by omega)) ?_
  show evB T [_] (bst cs ns n x m (c + 1) s2 s3 (.fz (.int k)) (.fz (.int (m * 48271 + k % 2147483647 + 7919 * (c + 1)))) s6) _
  generalize m * 48271 + k % 2147483647 + 7919 * (c + 1) = y
  refine And.intro (by omega : (0:Int) < 2147483647) ?_
  refine And.intro ⟨_, rfl⟩ ?_
  refine Exists.intro 1 (And.intro rfl ?_)
  show evB T [] (bst cs ns n x (y % 2147483647) (c + 1) s2 s3 (.fz (.int k)) (.fz (.int y)) s6) _
  exact take_mid h0 h1 hx (by omega) (by omega) (by omega)
theorem take_midd {k : Int} (h0 : 0 < n) (h1 : n < 1073741824) (hx : 0 ≤ x) (hm : 0 ≤ m) (hm2 : m < 2147483647) (hc : 0 ≤ c) (hk : 0 ≤ k) :
    evB T takeM (bst cs ns n x m c s2 s3 (.fz (.int k)) s5 s6) { takeE cs ns n with nx := fun ρ1 => evB T (takeC.drop 1) ρ1 (takeE cs ns n) } := by
  refine And.intro ⟨_, rfl⟩ ?_
  refine Exists.intro 2 (Exists.intro c (And.intro rfl (And.intro rfl ?_)))
  refine And.intro rfl ?_
  show (if decide (1000000000000000000 ≤ k) = true then evB T [_] (bst cs ns n x m (c + 1) s2 s3 (.fz (.int k)) s5 s6) _ else evB T [] (bst cs ns n x m (c + 1) s2 s3 (.fz (.int k)) s5 s6) _)
  generalize decide (1000000000000000000 ≤ k) = big
  cases big with
  | true =>
    rw [if_pos rfl]
    refine And.intro ⟨_, rfl⟩ ?_
    refine Exists.intro 0 (And.intro rfl ?_)
    show evB T takeF (bst cs ns n k m (c + 1) s2 s3 (.fz (.int k)) s5 s6) _
    exact take_fin h0 h1 hk hm hm2 hc hk
  | false =>
    rw [if_neg (by decide)]
    exact take_fin h0 h1 hx hm hm2 hc hk
theorem take_ev (hns : ∀ k ∈ ns, 0 ≤ k) (h0 : 0 < n) (h1 : n < 1073741824) (hx : 0 ≤ x) (hm : 0 ≤ m) (hm2 : m < 2147483647) (hc : 0 ≤ c) : evB T takeC (bst cs ns n x m c s2 s3 s4 s5 s6) (takeE cs ns n) := by
  refine Exists.intro _ (And.intro rfl ?_)
  refine Or.inl (And.intro (.inl ⟨rfl, rfl⟩) ?_)
  show (if eqD (.int x) (.int 0) = true then evB T (_ :: _ :: takeM) _ _ else evB T [] _ _)
  rw [eqD_int]
  by_cases hz : x = 0
  case neg =>
    rw [if_neg (by simp [hz])]
    exact take_mid h0 h1 hx hm hm2 hc
  rw [if_pos (by simp [hz])]
  refine Exists.intro _ (And.intro rfl ?_)
  refine Exists.intro _ (And.intro rfl ?_)
  show (if decide (c < (ns.length : Int)) = true then evB T [_] (bst cs ns n x m c s2 s3 (.fz (.int 0)) s5 s6) _ else evB T [] (bst cs ns n x m c s2 s3 (.fz (.int 0)) s5 s6) _)
  by_cases hl : c < (ns.length : Int)
  · rw [if_pos (decide_eq_true hl)]
    refine Exists.intro _ (And.intro rfl ?_)
    refine Exists.intro _ (And.intro rfl ?_)
    obtain ⟨j, rfl⟩ := Int.eq_ofNat_of_zero_le hc
    have hj : j < ns.length := by omega
    refine Exists.intro ns[j] (And.intro ?_ ?_)
    · unfold atI ixN
      rw [if_pos (by omega), if_pos hl]
      simp [hj]
    · show evB T takeM (bst cs ns n x m j s2 s3 (.fz (.int ns[j])) s5 s6) _
      exact take_midd h0 h1 hx hm hm2 hc (hns _ (List.getElem_mem hj))
  · rw [if_neg (by simp [hl])]
    exact take_midd h0 h1 hx hm hm2 hc (Int.le_refl 0)

end
end DI

set_option Elab.async false
set_option linter.all false
set_option autoImplicit false
set_option maxRecDepth 100000
set_option maxHeartbeats 2000000
/-! DI6: the end of a law whose defs are promised where no text is being shown. -/
namespace DI
open PySem PySem.Spec PyProof.Rows L2
def isDictAt (g : Addr → Option Obj) (a : Addr) : Bool := match g a with
  | some o => o.cls == .type "dict"
  | none => false
theorem isDictAt_of {g : Addr → Option Obj} {a : Addr} (h : isDictAt g a = true) : ∃ o, g a = some o ∧ o.cls = .type "dict" := by
  unfold isDictAt at h
  split at h
  · exact ⟨_, by assumption, by simpa using h⟩
  · cases h
def hookS (n : Nat) (fa : List He.Fa) (fn : List He.DefD) : PySem.W.Hook where
  α := He.AlD × Bool
  obs := fun s => (He.obsDG n fa fn s.heap.get?, isDictAt s.heap.get? sysModules)
  val := fun _ => (He.valD fn, true)
  says := fun _ h => (∃ K : PySem.W.Frag, K.In h ∧ He.SaysD fa fn K) ∧ ∃ o, h.get? sysModules = some o ∧ o.cls = .type "dict"
  of := fun w s e => ⟨(He.hookD n fa fn).of w s (congrArg Prod.fst e), isDictAt_of (congrArg Prod.snd e)⟩
  keeps := fun w h h' z k => by
    obtain ⟨z1, o, z2, z3⟩ := z
    exact ⟨(He.hookD n fa fn).keeps w h h' z1 k, o, k _ _ z2, z3⟩
/-- the law is called -/
theorem callLaw {P : Program} {w : World} {K : PySem.W.Frag} {mg mb : Str → Option Value} {k : Nat} {fa a : Addr} {fd : FuncData} {x : Str} {sp : Sp} {s₁ : Shared} {vs : List Value} {ns : List Int}
    (KX : K.In s₁.heap) (hns : s₁.heap.Ns mainGlobals mg) (hbn : s₁.heap.Ns builtinsNs mb) (hbb : ∀ x : Str, x ≠ "__name__" → mb x = bootBuiltins x) (hlim : s₁.heap.NoLimit) (hgn : s₁.gens = #[])
    (hsys : ∃ o, s₁.heap.get? sysModules = some o ∧ o.cls = .type "dict")
    (ha : s₁.heap.get? a = some { cls := .type "list", data := .seq vs.toArray }) (hi : IntsAre vs ns) (hl : ns.length ≤ sizeLine) (hr : Room k callerA)
    (F : ∀ base : Heap, K.In base → base.Ns mainGlobals mg → (∃ o, base.get? sysModules = some o) → FnG P w K mg base true k fa fd [x] sp) (hbind : ∀ (s : Shared) (u : Value), BindsTo s fd ⟨[u], []⟩ [(x, u)])
    (hsp : ∀ H : Hp, Only H → SqL K H a (ns.map V.int) → sp [.ref a] H (fun v _ => v = .bl true) fun _ _ _ => False) :
    codeAny (model P w) callerA (.call (.ref fa) ⟨[.ref a], []⟩) (fun r s' => r = .ok (.ret (.bool true)) ∧ OldK s₁.heap s'.heap ∧ s'.os = s₁.os ∧ AllBare s'.gens) s₁ := by
  have rv := vals_ints hi
  have lenV := hi.length
  obtain ⟨osy, hsy, hsyc⟩ := hsys
  -- the heap of the entry: nothing is told, or the script alone
  suffices main : ∀ H : Hp, Only H → SqL K H a (ns.map V.int) → HOk P w H s₁.heap → (∀ b, b ≠ a → H b = none) → (H a ≠ none → K.lookup a = none) →
      codeAny (model P w) callerA (.call (.ref fa) ⟨[.ref a], []⟩) (fun r s' => r = .ok (.ret (.bool true)) ∧ OldK s₁.heap s'.heap ∧ s'.os = s₁.os ∧ AllBare s'.gens) s₁ by
    by_cases hk : K.lookup a = none
    · refine main (fun b => if b = a then some (.frz ⟨.type "list", none, .seq vs.toArray, #[]⟩ (.lst (ns.map V.int))) else none) (fun b => ?_) (.inl (.inr ⟨_, if_pos rfl⟩)) ?_ (fun b hb => if_neg hb) fun _ => hk
      · by_cases hb : b = a
        · exact .inr ⟨_, _, if_pos hb⟩
        · exact .inl (if_neg hb)
      · intro b u z
        by_cases hb : b = a
        · subst hb
          have z2 := (if_pos rfl).symm.trans z
          cases z2
          exact ⟨ha, by rw [List.length_map]; exact hl, vs, _, rv, ha⟩
        · have z2 := (if_neg hb).symm.trans z
          cases z2
    · obtain ⟨o, ho⟩ := Option.ne_none_iff_exists'.mp hk
      have e := KX a o ho
      rw [ha] at e
      cases e
      refine main (fun _ => none) (fun _ => .inl rfl) (.inr ⟨_, vs.toArray, _, ho, rfl, rfl, rfl, ?_, by simpa using rv⟩) (fun b u z => nomatch z) (fun _ _ => rfl) fun z => absurd rfl z
      rw [List.size_toArray, lenV]
      exact hl
  intro H hO hS hok hA hK
  have off : ∀ {b : Addr} {o : Obj}, s₁.heap.get? b = some o → o.cls = .type "dict" ∨ (∃ es ep, o.data = .dict es ep) → H b = none := fun {b o} e q => by
    apply hA
    rintro rfl
    rw [ha] at e
    cases e
    rcases q with q | ⟨es, ep, q⟩
    · have q : Value.type "list" = Value.type "dict" := q
      injection q with q
      exact absurd q (by decide)
    · cases q
  have lift : ∀ {b : Addr} {m : Str → Option Value}, s₁.heap.Ns b m → (hidT s₁.heap H).Ns b m := fun {b m} h => by
    obtain ⟨o, es, ep, e, d, q⟩ := h
    exact ⟨o, es, ep, hidT_get e (off e (.inr ⟨es, ep, d⟩)), d, q⟩
  have kb : K.In (hidT s₁.heap H) := fun b o e => hidT_get (KX b o e) (by
    by_cases hb : b = a
    · subst hb
      cases q : H b with
      | none => rfl
      | some u =>
        have := hK (by rw [q]; exact nofun)
        rw [this] at e
        cases e
    · exact hA b hb)
  obtain ⟨mc, l1, l2⟩ := hlim
  have md : Mod K mg (hidT s₁.heap H) := ⟨kb, lift hns, ⟨mb, lift hbn, hbb⟩, ⟨mc, lift l1, l2⟩⟩
  have e0 : Env0 P w K mg (hidT s₁.heap H) callerA [] s₁ H := ⟨rfl, md, fun b o e => of_hidT e, Nat.le_of_eq (hidT_size _ _), trivial, fun b hb => absurd hb List.not_mem_nil, hok, .of_eq hgn⟩
  have FF := F _ kb (lift hns) ⟨osy, hidT_get hsy (off hsy (.inl hsyc))⟩
  refine codeAny_mono (FF.run callerA [] s₁ H _ [.ref a] [.ref a] _ _ (fun _ => rfl) hr e0 (hbind s₁ (.ref a)) (.cons rfl .nil) (hsp H hO hS)) ?_
  intro r s2 z
  rcases r with e | fl
  · exact z.elim
  cases fl with
  | next => exact z.elim
  | brk => exact z.elim
  | cont => exact z.elim
  | ret u =>
    obtain ⟨v, H2, os, bare, un, hok2, r2, q⟩ := z
    have q : v = .bl true := q
    subst q
    have r2 : u = Value.bool true := r2
    subst r2
    refine ⟨rfl, OldK.of_keep ?_, os, bare⟩
    intro b o e
    cases q : H b with
    | none => exact un.keep b o e q (fun z => absurd z List.not_mem_nil) List.not_mem_nil
    | some hu =>
      rcases hO b with z | ⟨ob, xs, z⟩
      · rw [q] at z
        cases z
      · have e1 := (hok b _ z).1
        have e2 := (hok2 b _ (un.frzs b ob _ z)).1
        rw [e] at e1
        cases e1
        exact e2
/-- from the law's promise to the row -/
theorem walkG {l : PySem.W.OpenLaw} {n k : Nat} {q : Program} {loose : List Str} {XP : (Str → Option Value) → Heap → Prop} {fas : List He.Fa} {fns : List He.DefD} {m : Nat} {d : DefRec} {x : Str}
    (hn : l.most = some n) (hn2 : n ≤ sizeLine) (hdf : d.params.defaults = []) (hr : Room k callerA)
    (F : ∀ (w : World) (mg : Str → Option Value) (fa : Addr) (h : Heap) (K : PySem.W.Frag), K.In h → He.SaysD fas fns K → h.Ns mainGlobals mg → mg d.name = some (.ref fa) →
      ∃ (fd : FuncData) (sp : Sp), (∀ (s : Shared) (u : Value), BindsTo s fd ⟨[u], []⟩ [(x, u)]) ∧
        (∀ (H : Hp) (a : Addr) (ns : List Int), ns.length ≤ n → SqL K H a (ns.map V.int) → sp [.ref a] H (fun v _ => v = .bl true) fun _ _ _ => False) ∧
        ∀ base : Heap, K.In base → base.Ns mainGlobals mg → (∃ o, base.get? sysModules = some o) → FnG l.prog w K mg base true k fa fd [x] sp) :
    PySem.W.WalkO q loose XP (hookS m fas fns).says l.row.toRowW d [] (fun f vs => PySem.call f vs) := by
  refine Att.attach_call hn hdf ?_
  intro w s₀ s₁ mg mb fa o pm cd doc a vs ns G Y ho hd hcd hmg hobj hints hlen hgn
  obtain ⟨⟨K, KX, c⟩, hsys⟩ := Y
  obtain ⟨fd, sp, hb, hsp, hF⟩ := F w mg fa _ K KX c G.T.g hmg
  exact callLaw KX G.T.g G.T.b G.T.builtins G.T.nolimit hgn hsys hobj hints (Nat.le_trans hlen hn2) hr hF hb fun H _ hS => hsp H a ns hlen hS
end DI

set_option Elab.async false
set_option linter.all false
set_option autoImplicit false
set_option maxRecDepth 100000
set_option maxHeartbeats 1000000
/-! DI5c: the promises of _law_take and _law_bag; a law whose first statement makes its bag. -/
namespace DI
open PySem PySem.Spec PyProof.Rows L2
def takeSp : DSp := fun β ds Q => ∃ b n, β = some b ∧ ds = [.opq (.ref b.1), .int n] ∧ 0 < n ∧ n < 1073741824 ∧ ∀ r, 0 ≤ r → r < n → Q (.fz (.int r))
theorem rp4 {K : PySem.W.Frag} {G : Hp} {vs : List V} {x m c : Int} {cs : Addr} {ns : List Int} (h : RpA K G vs [.int x, .int m, .int c, .scr cs ns]) : vs = [.int x, .int m, .int c, .ref cs] := by
  cases h with
  | cons h1 h => cases h with
    | cons h2 h => cases h with
      | cons h3 h => cases h with
        | cons h4 h =>
          cases h
          cases h1
          cases h2
          cases h3
          cases h4
          rfl
theorem rp4l {K : PySem.W.Frag} {G : Hp} {vs : List V} {x m c : Int} {ns : List Int} (h : RpA K G vs [.int x, .int m, .int c, .lst (ns.map D.int)]) : ∃ cs, vs = [.int x, .int m, .int c, .ref cs] ∧ G cs = some (.lst (ns.map V.int)) := by
  cases h with
  | cons h1 h => cases h with
    | cons h2 h => cases h with
      | cons h3 h => cases h with
        | cons h4 h =>
          cases h
          cases h1
          cases h2
          cases h3
          cases h4 with
          | lst e r => exact ⟨_, rfl, by rw [e, r.int_of]⟩
theorem take_start {K : PySem.W.Frag} {G H : Hp} {b : Bag} {x m c n : Int} {ns : List Int} {N : List Str} (hN : N.length = 7) (hs : Same G H) (hg : G b.1 = none) (e1 : H b.1 = some (.lst [.int x, .int m, .int c, .ref b.2.1])) (e2 : G b.2.1 = some (.lst (ns.map V.int))) :
    Rl ⟨K, fun a => H a ≠ none ∧ G a = none ∧ a ≠ b.1, H⟩ G H (start N [.ref b.1, .int n]) (bst b.2.1 ns n x m c .un .un .un .un .un) := by
  have est : start N [.ref b.1, .int n] = [some (.ref b.1), some (.int n), none, none, none, none, none] := by
    show [V.ref b.1, V.int n].map some ++ List.replicate (N.length - 2) none = _
    rw [hN]
    rfl
  rw [est]
  have z : ∀ (i : Nat) (q : M), (bst b.2.1 ns n x m c .un .un .un .un .un).sl[i]? = some q → (i = 0 ∧ q = .ow (.lst [.int x, .int m, .int c, .scr b.2.1 ns])) ∨ (i = 1 ∧ q = .fz (.int n)) ∨ q = .un := fun i q e => by
    rcases i with _ | _ | _ | _ | _ | _ | _ | i
    · cases e; exact .inl ⟨rfl, rfl⟩
    · cases e; exact .inr (.inl ⟨rfl, rfl⟩)
    · cases e; exact .inr (.inr rfl)
    · cases e; exact .inr (.inr rfl)
    · cases e; exact .inr (.inr rfl)
    · cases e; exact .inr (.inr rfl)
    · cases e; exact .inr (.inr rfl)
    · cases e
  refine ⟨hs, fun a h => ⟨h.2.1, rfl, h.1, (fun b' q => nomatch q), (fun b' q => nomatch q)⟩, rfl, fun i d e => ?_, fun i d e => ?_, fun i j d e a q1 q2 _ _ => ?_, (fun b' q => nomatch q), (fun b' i d q => nomatch q)⟩
  · rcases z i _ e with ⟨_, q⟩ | ⟨rfl, q⟩ | q
    · cases q
    · cases q; exact ⟨_, rfl, .int n⟩
    · cases q
  · rcases z i _ e with ⟨rfl, q⟩ | ⟨rfl, q⟩ | q
    · cases q
      exact ⟨b.1, rfl, fun h => h.2.2 rfl, hg, _, e1, .cons (.int x) (.cons (.int m) (.cons (.int c) (.cons (.scr (SqL.of e2)) .nil)))⟩
    · cases q
    · cases q
  · rcases z i _ q1 with ⟨rfl, q⟩ | ⟨rfl, q⟩ | q
    · rcases z j _ q2 with ⟨rfl, q⟩ | ⟨rfl, q⟩ | q
      · rfl
      · cases q
      · cases q
    · cases q
    · cases q
theorem take_le {K : PySem.W.Frag} {G H : Hp} {b : Bag} {n : Int} {ns : List Int} {Q : VK} (hs : Same G H) (hg : G b.1 = none) (ht : TbOk G H b.2.2) (hns : ∀ k ∈ ns, 0 ≤ k) (e1 : ∃ vs, H b.1 = some (.lst vs)) (e2 : G b.2.1 = some (.lst (ns.map V.int)))
    (hQ : ∀ r, 0 ≤ r → r < n → ∀ v G' H', Ok2 K (some b) G H G' H' → RO K (some b) G' H' H v (.fz (.int r)) → Q v H') :
    (takeE b.2.1 ns n).Le (EnP ⟨K, fun a => H a ≠ none ∧ G a = none ∧ a ≠ b.1, H⟩ G b.1 { nx := fun _ H' => Q .non H', rt := Q }) := by
  refine ⟨fun ρ h => h.elim, ?_, fun ρ h => h, fun ρ h => h, fun d ρ h => h⟩
  rintro r ρ ⟨i, d, rfl, h0, h1, hsl, x, m, c, rfl, hx, hm, hm2, hc⟩ σ' v G' H' g rl h2 rr
  obtain ⟨a', q1, q2, q3, vs, q4, q5⟩ := rl.ow 0 _ hsl
  rw [h2] at q1
  cases q1
  have ev := rp4 q5
  subst ev
  have keep : ∀ a o, H a = some o → a ≠ b.1 → H' a = some o := fun a o e ne => by
    cases g1 : G a with
    | none => rw [(rl.fr a ⟨by rw [e]; exact nofun, g1, ne⟩).2.1]; exact e
    | some o' =>
      have z := hs _ _ g1
      rw [e] at z
      cases z
      exact rl.sub _ _ (g _ _ g1)
  have ne1 : ∀ a o, H a = some o → (∀ vs, o ≠ .lst vs) → a ≠ b.1 := fun a o e n z => by
    obtain ⟨vs, q⟩ := e1
    rw [z, q] at e
    exact n vs (Option.some.inj e).symm
  refine hQ i h0 h1 v G H' ⟨Same.refl G, g.trans rl.sub, fun a ha hn _ => ⟨hn, fun z => ?_⟩, fun b' hb => ?_⟩ (by cases rr; exact .int i)
  · cases e : H a with
    | none => exact absurd e ha
    | some o => exact keep a o e fun q => z b rfl q.symm
  · cases hb
    exact ⟨ht.sub (fun a ps e => e) (fun a ps e => keep a _ e (ne1 a _ e fun vs z => by cases z)) fun a q e => keep a _ e (ne1 a _ e fun vs z => by unfold LamX.CodeO at z; cases z), hg, x, m, c, ns, q4, e2, hx, hm, hm2, hc, hns⟩
section
variable {T : Tb} {P : Program} {w : World} {K : PySem.W.Frag} {mg : Str → Option Value} {base : Heap} {lv : Nat} {S : SC} {f : Addr} {name qual : Str} {params : Arguments} {body : List Stmt} {dV kV doc pm cdv ct oc : Value} {an od : Option Addr} {osl : Array (Option Value)}
theorem takeG {p1 p2 : Str} (lk : K.lookup f = some ⟨oc, od, .func (PySem.W.fnOf name qual params body S.sc dV kV doc pm an cdv ct), osl⟩) (hcd : PySem.W.codeIn K cdv qual = true) (Z : FnScope S.N [p1, p2] S.sc) (hN : S.N.length = 7)
    (tm : T.Mono) (hW : T.W = (P, w)) (tx : TxtOk mg base) (hfm : S.fnm = fun _ => true) (hf : FnsOk T P w K mg base lv S.n S.fn S.fg) (hxf : XfnsOk T P w K mg base lv S.nx S.xf) (hg : GlsOk T K mg S.ng S.gl ∧ GdsOk T w K mg S.ngd S.gdn) (hc : chkPB S takeC body = true) (hx0 : S.ex = false) (hr0 : S.rs = false) (hd0 : S.hd = none) :
    FnG P w K mg base S.gd (lv + 1) f (PySem.W.fnOf name qual params body S.sc dV kV doc pm an cdv ct) [p1, p2] (liftSp K takeSp) := by
  refine fnG_of lk hcd Z (fun vs H Q E h => ?_) fun A outer s H vs Q E gu hr h => ?_
  · obtain ⟨G, β, ds, _, _, ra, b, n, _, rfl, _⟩ := h
    rw [ra.length]
    rfl
  · obtain ⟨G, β, ds, hs, hbg, ra, b, n, rfl, rfl, h0, h1, hQ⟩ := h
    obtain ⟨ht, g0, x, m, c, ns, e1, e2, hx, hm, hm2, hcc, hns⟩ := hbg b rfl
    have ev : vs = [.ref b.1, .int n] := by
      cases ra with
      | cons r1 r2 => cases r2 with
        | cons r2 r3 => cases r3; cases r1; cases r2; rfl
    subst ev
    have cx := cx_ok (E := E) (outer := outer) (H := H) tm hW tx Z hfm hf hxf hg gu hr (fun h e => by rw [hd0] at e; cases e) hx0 hr0
    exact ⟨LBP T K takeC, PSs.nox (sBP takeC cx hc), _, G, _, b.1, rfl, take_start hN hs g0 e1 e2, by
      show ([V.ref b.1, V.int n].map some ++ _)[0]? = _
      rfl, evB_mono tm takeC (take_le hs g0 ht hns ⟨_, e1⟩ e2 hQ) (take_ev hns h0 h1 hx hm hm2 hcc)⟩
end
end DI

set_option Elab.async false
set_option linter.all false
set_option autoImplicit false
set_option maxRecDepth 100000
set_option maxHeartbeats 1000000
/-! DI5d: _law_bag; a law whose first statement makes its bag. -/
namespace DI
open PySem PySem.Spec PyProof.Rows L2
def bagSp : DSp := fun _ ds Q => ∃ (a : Addr) (ns : List Int), ds = [.scr a ns] ∧ ∀ ms : List Int, (∀ k ∈ ms, 0 ≤ k) → Q (.ow (.lst [.int 0, .int 1234567891, .int 0, .lst (ms.map D.int)]))
theorem bag_comp {T : Tb} {d0 : D} {β : Option Bag} {Q : List D → Sta → Prop} : ∀ (ms acc : List Int), acc.length + ms.length < 100 → (∀ k ∈ acc, 0 ≤ k) → (∀ zs : List Int, (∀ k ∈ zs, 0 ≤ k) → Q (zs.map D.int) ⟨[.fz d0, .un], β⟩) →
    compD (fun d ρ2 k => asgG (.name 1) d ρ2 fun ρ3 => evC T .none ρ3 fun b ρ4 => if b = true then evE T (.bi .abs (.cons (.var 1) .nil)) ρ4 fun r ρ5 => keep r ρ5 fun x ρ6 => k (some x) (wipes ρ6 [1]) else k none (wipes ρ4 [1]))
      (ms.map D.int) (acc.map D.int) ⟨[.fz d0, .un], β⟩ Q
  | [], acc, _, ha, q => q acc ha
  | n :: ms, acc, hl, ha, q => by
    refine And.intro (by rw [List.length_map, sizeLine_eq]; simp only [List.length_cons] at hl; omega) ?_
    have ih := bag_comp (T := T) (d0 := d0) (β := β) (Q := Q) ms (acc ++ [if n < 0 then -n else n]) (by simp only [List.length_append, List.length_cons, List.length_nil] at hl ⊢; omega) (fun k hk => by
      rcases List.mem_append.mp hk with h | h
      · exact ha k h
      · rw [List.mem_singleton.mp h]
        split <;> omega) q
    rw [List.map_append] at ih
    exact ih
theorem bag_ev {T : Tb} {a : Addr} {ns : List Int} {β : Option Bag} {Q : R → Prop} (h : ∀ ms : List Int, (∀ k ∈ ms, 0 ≤ k) → Q (.ow (.lst [.int 0, .int 1234567891, .int 0, .lst (ms.map D.int)]))) :
    evB T bagC ⟨[.fz (.scr a ns), .un], β⟩ (finE β Q) := by
  have hc : cutD (ns.map D.int) none (some 63) = ((ns.drop (HT.sIx ns.length 0 none)).take (HT.sIx ns.length ns.length (some 63) - HT.sIx ns.length 0 none)).map D.int := by
    unfold cutD
    rw [List.length_map, ← List.map_drop, ← List.map_take]
  have key := bag_comp (T := T) (d0 := .scr a ns) (β := β) (Q := fun acc ρ7 => evK T .nil (backs ⟨[.fz (.scr a ns), .un], β⟩ ρ7 [1]) fun ds ρ1 => ([D.int 0, .int 1234567891, .int 0, .lst acc] ++ ds).length ≤ sizeLine ∧ (finE β Q).rt (.ow (.lst ([D.int 0, .int 1234567891, .int 0, .lst acc] ++ ds))) ρ1)
    ((ns.drop (HT.sIx ns.length 0 none)).take (HT.sIx ns.length ns.length (some 63) - HT.sIx ns.length 0 none)) [] (by
      have : HT.sIx ns.length ns.length (some 63) ≤ 63 := by
        unfold HT.sIx
        simp only [Option.getD]
        split <;> omega
      simp only [List.length_nil, List.length_take]
      omega) (fun k hk => nomatch hk) (fun zs hz => ⟨by rw [sizeLine_eq]; exact (by decide : 4 ≤ 16777216), rfl, h zs hz⟩)
  rw [← hc] at key
  exact key
/-- without the tables -/
def noTb (H : Hp) : Hp := fun a => match H a with
  | some (.tbl _) => none
  | o => o
theorem noTb_at {H : Hp} {a : Addr} {o : HO} (h : H a = some o) (n : ∀ ps, o ≠ .tbl ps) : noTb H a = some o := by
  unfold noTb
  rw [h]
  split
  · rename_i ps e
    exact absurd (Option.some.inj e) (n ps)
  · rfl
theorem noTb_same (H : Hp) : Same (noTb H) H := fun a o e => by
  unfold noTb at e
  split at e
  · cases e
  · exact e
theorem noTb_no {H : Hp} {a : Addr} {ps : Array Value} (h : noTb H a = some (.tbl ps)) : False := by
  unfold noTb at h
  split at h
  · cases h
  · rename_i n
    exact n ps h
theorem noTb_sqL {K : PySem.W.Frag} {H : Hp} {a : Addr} {vs : List V} (h : SqL K H a vs) : SqL K (noTb H) a vs := by
  rcases h with (h | ⟨o, h⟩) | h
  · exact .inl (.inl (noTb_at h fun ps z => by cases z))
  · exact .inl (.inr ⟨o, noTb_at h fun ps z => by cases z⟩)
  · exact .inr h
/-- where a law ends -/
def finT : En where
  nx := fun _ => False
  rt := fun r _ => r = .fz (.bl true)
  bk := fun _ => False
  ct := fun _ => False
def lawSt (n : Nat) (a : Addr) (ns : List Int) (b : Bag) : Sta := ⟨.fz (.scr a ns) :: .fz (.opq (.ref b.1)) :: List.replicate n .un, some b⟩
def lawSp (K : PySem.W.Frag) (tabs : List (Addr × Str)) : Sp := fun vs H Q _ => ∃ (a : Addr) (ns : List Int), vs = [.ref a] ∧ SqL K H a (ns.map V.int) ∧ LamX.Tabs tabs H ∧ ∀ H', Q (.bl true) H'
section
variable {T : Tb} {P : Program} {w : World} {K : PySem.W.Frag} {mg : Str → Option Value} {base : Heap} {lv : Nat} {S : SC} {f : Addr} {name qual : Str} {params : Arguments} {body : List Stmt} {dV kV doc pm cdv ct oc : Value} {an od : Option Addr} {osl : Array (Option Value)}
theorem bagG {p1 : Str} (lk : K.lookup f = some ⟨oc, od, .func (PySem.W.fnOf name qual params body S.sc dV kV doc pm an cdv ct), osl⟩) (hcd : PySem.W.codeIn K cdv qual = true) (Z : FnScope S.N [p1] S.sc) (hN : S.N.length = 2)
    (tm : T.Mono) (hW : T.W = (P, w)) (tx : TxtOk mg base) (hfm : S.fnm = fun _ => true) (hf : FnsOk T P w K mg base lv S.n S.fn S.fg) (hxf : XfnsOk T P w K mg base lv S.nx S.xf) (hg : GlsOk T K mg S.ng S.gl ∧ GdsOk T w K mg S.ngd S.gdn) (hc : chkB S bagC body = true) (hx0 : S.ex = false) (hr0 : S.rs = false) (hd0 : S.hd = none) :
    FnG P w K mg base S.gd (lv + 1) f (PySem.W.fnOf name qual params body S.sc dV kV doc pm an cdv ct) [p1] (liftSp K bagSp) := by
  refine defG lk hcd Z tm hW tx hfm hf hxf hg hc hx0 hr0 (fun _ _ _ _ _ h e => by rw [hd0] at e; cases e) (fun β ds Q h => ?_) fun β ds Q h => ?_
  · obtain ⟨a, ns, rfl, _⟩ := h
    rfl
  · obtain ⟨a, ns, rfl, h⟩ := h
    rw [hN]
    exact bag_ev h
/-- the rule for a law -/
theorem lawG {p1 : Str} {st : Stmt} {rest : List Stmt} {kb n : Nat} {c : List CS} (lk : K.lookup f = some ⟨oc, od, .func (PySem.W.fnOf name qual params body S.sc dV kV doc pm an cdv ct), osl⟩) (hcd : PySem.W.codeIn K cdv qual = true) (Z : FnScope S.N [p1] S.sc) (hN : S.N.length = n + 2)
    (tm : T.Mono) (hW : T.W = (P, w)) (tx : TxtOk mg base) (hfm : S.fnm = fun _ => true) (hf : FnsOk T P w K mg base lv S.n S.fn S.fg) (hxf : XfnsOk T P w K mg base lv S.nx S.xf) (hg : GlsOk T K mg S.ng S.gl ∧ GdsOk T w K mg S.ngd S.gdn) (hb : body = st :: rest) (h1 : chkS S (.asg (.name 1) (.call kb (.cons (.var 0) .nil))) st = true) (hk : T.fn kb = bagSp) (h2 : chkB S c rest = true)
    (hx0 : S.ex = false) (hr0 : S.rs = false) (hd0 : S.hd = none) (ev : ∀ a ns b, b.2.2 = T.tabs → evB T c (lawSt n a ns b) finT) :
    FnG P w K mg base S.gd (lv + 1) f (PySem.W.fnOf name qual params body S.sc dV kV doc pm an cdv ct) [p1] (lawSp K T.tabs) := by
  subst hb
  refine fnG_of lk hcd Z (fun vs H Q E h => ?_) fun A outer s H vs Q E gu hr h => ?_
  · obtain ⟨a, ns, rfl, _⟩ := h
    rfl
  · obtain ⟨a, ns, rfl, hs, htab, hq⟩ := h
    have cx := cx_ok (E := E) (outer := outer) (H := H) tm hW tx Z hfm hf hxf hg gu hr (fun h e => by rw [hd0] at e; cases e) hx0 hr0
    have r0 := start_rl (K := K) (N := S.N) (G := noTb H) (H := H) (β := none) (vs := [.ref a]) (ds := [.scr a ns]) (noTb_same H) (fun b z => nomatch z) (.cons (.scr (noTb_sqL hs)) .nil)
    refine ⟨_, PSs.nox (pss_cons (sS (xw := ⟨0, "", fun _ _ _ => False⟩) _ cx (fun e => by rw [hx0] at e; cases e) h1) (sB (xw := ⟨0, "", fun _ _ _ => False⟩) c cx (fun e => by rw [hx0] at e; cases e) h2)), _, noTb H, _, rfl, r0, ?_⟩
    have est : sta S.N.length [.scr a ns] none = ⟨.fz (.scr a ns) :: .un :: List.replicate n .un, none⟩ := by
      unfold sta
      rw [hN]
      rfl
    rw [est]
    show T.fn kb none [.scr a ns] _
    rw [hk]
    refine ⟨a, ns, rfl, fun ms hms => ?_⟩
    intro σ' G' H' g rl
    have rl : Rl _ G' H' σ' ⟨.fz (.scr a ns) :: .ow (.lst [.int 0, .int 1234567891, .int 0, .lst (ms.map D.int)]) :: List.replicate n .un, none⟩ := rl
    obtain ⟨b1, q1, q2, q3, vs, q4, q5⟩ := rl.ow 1 _ rfl
    obtain ⟨cs, rfl, q6⟩ := rp4l q5
    obtain ⟨v0, q7, q8⟩ := rl.fz 0 _ rfl
    have z : ∀ (i : Nat) (m : M), (lawSt n a ns (b1, cs, T.tabs)).sl[i]? = some m → (i = 0 ∧ m = .fz (.scr a ns)) ∨ (i = 1 ∧ m = .fz (.opq (.ref b1))) ∨ m = .un := fun i m e => by
      rcases i with _ | _ | i
      · cases e; exact .inl ⟨rfl, rfl⟩
      · cases e; exact .inr (.inl ⟨rfl, rfl⟩)
      · have e : (List.replicate n M.un)[i]? = some m := e
        rw [List.getElem?_replicate] at e
        split at e
        · cases e; exact .inr (.inr rfl)
        · cases e
    have tb' : LamX.Tabs T.tabs H' := fun p m => by
      have at_ : ∀ a o, H a = some o → H' a = some o := fun a o e => by
        cases g1 : noTb H a with
        | none => rw [(rl.fr a ⟨by rw [e]; exact nofun, g1, (fun b' q => nomatch q), (fun b' q => nomatch q)⟩).2.1]; exact e
        | some o' =>
          have z := noTb_same H _ _ g1
          rw [e] at z
          cases z
          exact rl.sub _ _ (g _ _ g1)
      exact (htab p m).ext at_
    have rl2 : Rl ⟨K, fun _ => False, H'⟩ (noTb G') H' σ' (lawSt n a ns (b1, cs, T.tabs)) := by
      refine ⟨(noTb_same G').trans rl.sub, fun _ h => h.elim, rl.len, fun i d e => ?_, fun i d e => ?_, fun i j d e a' p1 => ?_, fun b hb => ?_, fun b i d hb e => ?_⟩
      · rcases z i _ e with ⟨rfl, q⟩ | ⟨rfl, q⟩ | q
        · cases q
          refine ⟨v0, q7, ?_⟩
          cases q8 with
          | scr h => exact .scr (noTb_sqL h)
        · cases q; exact ⟨_, q1, .opq _⟩
        · cases q
      · rcases z i _ e with ⟨rfl, q⟩ | ⟨rfl, q⟩ | q <;> cases q
      · rcases z i _ p1 with ⟨rfl, q⟩ | ⟨rfl, q⟩ | q <;> cases q
      · cases hb
        have gb : noTb G' b1 = none := by
          cases e : noTb G' b1 with
          | none => rfl
          | some o =>
            have z := noTb_same G' _ _ e
            rw [q3] at z
            cases z
        exact ⟨⟨tb', fun a ps e => noTb_no e⟩, gb, 0, 1234567891, 0, ms, q4, noTb_at q6 (fun ps z => (by cases z)), by decide, by decide, by decide, by decide, hms⟩
      · rcases z i _ e with ⟨rfl, q⟩ | ⟨rfl, q⟩ | q <;> cases q
    refine ⟨_, noTb G', _, rfl, rl2, evB_mono tm c ?_ (ev a ns (b1, cs, T.tabs) rfl)⟩
    refine ⟨fun ρ h => h.elim, ?_, fun ρ h => h.elim, fun ρ h => h.elim, fun d ρ h => h.elim⟩
    rintro r ρ rfl σ2 v G2 H2 g2 rl3 rr
    cases rr
    exact hq H2
end
end DI

set_option Elab.async false
set_option linter.all false
set_option autoImplicit false
set_option maxRecDepth 100000
set_option maxHeartbeats 1000000
/-! DI7: the defs of a text, one behind another. -/
namespace DI
open PySem PySem.Spec PyProof.Rows L2
/-- binding without defaults -/
def BindOk (x : Str) (prm : Arguments) (body : List Stmt) (sc : Scope) (ps : List Str) : Prop := ∀ (kV doc pm : Value) (an : Option Addr) (cdv ct : Value) (us : List Value), us.length = ps.length → bindArgs (PySem.W.fnOf x x prm body sc .none kV doc pm an cdv ct) ⟨us, []⟩ = pure (ps.zip us)
def FOk (P : Program) (w : World) (K : PySem.W.Frag) (mg : Str → Option Value) (base : Heap) (gd : Bool) (lv : Nat) (x : Str) (sp : DSp) : Prop :=
  ∃ (f : Addr) (fd : FuncData) (ps : List Str), mg x = some (.ref f) ∧ PySem.W.keepIn K (.ref f) = true ∧ Binds K fd ps [] ∧ FnG P w K mg base gd lv f fd ps (liftSp K sp)
/-- .. that may end by an error -/
def XOk (T : Tb) (P : Program) (w : World) (K : PySem.W.Frag) (mg : Str → Option Value) (base : Heap) (lv : Nat) (x : Str) (sp : DSpX) : Prop :=
  ∃ (f : Addr) (fd : FuncData) (ps : List Str), mg x = some (.ref f) ∧ PySem.W.keepIn K (.ref f) = true ∧ Binds K fd ps [] ∧ FnOk P w K mg base (L2.CX P w) lv f fd ps (liftSpX K T.cn T.fx sp)
section
variable {T : Tb} {P : Program} {w : World} {K : PySem.W.Frag} {mg : Str → Option Value} {base : Heap} {lv : Nat} {S : SC} {f : Addr} {x : Str} {prm : Arguments} {body : List Stmt} {kws : List (Str × V)} {fd : FuncData}
/-- what a def that hears needs, of each of its contexts -/
def HrAt (T : Tb) (P : Program) (w : World) (K : PySem.W.Frag) (mg : Str → Option Value) (base : Heap) (lv : Nat) (S : SC) (qual : Str) (f : Addr) (cdv : Value) : Prop :=
  ∀ (A : Around) (outer : List PySem.Env) (s : Shared) (H : Hp) (E : XK) (h : Str), S.hd = some h → Room lv (A.deeper (envOfC qual S.sc s.heap.objs.size f cdv)) → HeardAt T (cxOf CX0 P w K mg base S.N qual S.sc f cdv A outer s H E).nox h
theorem hr_none {qual : Str} {cdv : Value} (h : S.hd = none) : HrAt T P w K mg base lv S qual f cdv := fun _ _ _ _ _ _ e => by rw [h] at e; cases e
theorem fok_of {ps : List Str} {c : List CS} {sp : DSp} (hm : mg x = some (.ref f)) (F : FunD K x x prm body S.sc [] kws f fd) (hb : BindOk x prm body S.sc ps) (Z : FnScope S.N ps S.sc)
    (tm : T.Mono) (hW : T.W = (P, w)) (tx : TxtOk mg base) (hfm : S.fnm = fun _ => true) (hf : FnsOk T P w K mg base lv S.n S.fn S.fg) (hxf : XfnsOk T P w K mg base lv S.nx S.xf) (hg : GlsOk T K mg S.ng S.gl ∧ GdsOk T w K mg S.ngd S.gdn) (hc : chkB S c body = true) (hx : S.ex = false) (hxr : S.rs = false) (hd : S.hd = none)
    (ar : ∀ β ds Q, sp β ds Q → ds.length = ps.length) (ev : ∀ β ds Q, sp β ds Q → evB T c (sta S.N.length ds β) (finE β Q)) : FOk P w K mg base S.gd (lv + 1) x sp := by
  have bd := F.bindsN hb
  have kp := F.kp
  obtain ⟨oc, od, dV, kV, doc, pm, an, cdv, ct, osl, rfl, lk, hcd, _, _⟩ := F.ex
  exact ⟨f, _, ps, hm, kp, bd, defG lk hcd Z tm hW tx hfm hf hxf hg hc hx hxr (hr_none hd) ar ev⟩
/-- .. a def that hears -/
theorem fok_hrd {ps : List Str} {c : List CS} {sp : DSp} (hm : mg x = some (.ref f)) (F : FunD K x x prm body S.sc [] kws f fd) (hb : BindOk x prm body S.sc ps) (Z : FnScope S.N ps S.sc)
    (tm : T.Mono) (hW : T.W = (P, w)) (tx : TxtOk mg base) (hfm : S.fnm = fun _ => true) (hf : FnsOk T P w K mg base lv S.n S.fn S.fg) (hxf : XfnsOk T P w K mg base lv S.nx S.xf) (hg : GlsOk T K mg S.ng S.gl ∧ GdsOk T w K mg S.ngd S.gdn) (hc : chkB S c body = true) (hx : S.ex = false) (hxr : S.rs = false) (hh : ∀ cdv, fd.code = cdv → HrAt T P w K mg base lv S x f cdv)
    (ar : ∀ β ds Q, sp β ds Q → ds.length = ps.length) (ev : ∀ β ds Q, sp β ds Q → evB T c (sta S.N.length ds β) (finE β Q)) : FOk P w K mg base S.gd (lv + 1) x sp := by
  have bd := F.bindsN hb
  have kp := F.kp
  obtain ⟨oc, od, dV, kV, doc, pm, an, cdv, ct, osl, rfl, lk, hcd, _, _⟩ := F.ex
  exact ⟨f, _, ps, hm, kp, bd, defG lk hcd Z tm hW tx hfm hf hxf hg hc hx hxr (hh _ rfl) ar ev⟩
/-- .. a def that may end by an error -/
theorem xok_of {ps : List Str} {c : List CS} {sp : DSpX} (hm : mg x = some (.ref f)) (F : FunD K x x prm body S.sc [] kws f fd) (hb : BindOk x prm body S.sc ps) (Z : FnScope S.N ps S.sc)
    (tm : T.Mono) (hW : T.W = (P, w)) (tx : TxtOk mg base) (hfm : S.fnm = fun _ => true) (hf : FnsOk T P w K mg base lv S.n S.fn S.fg) (hxf : XfnsOk T P w K mg base lv S.nx S.xf) (hg : GlsOk T K mg S.ng S.gl ∧ GdsOk T w K mg S.ngd S.gdn) (gu : S.gd = false) (hd : S.hd = none) (hc : chkB S c body = true)
    (hk : ∀ (cdv : Value) (A : Around) (outer : List PySem.Env) (s : Shared) (H : Hp) (E : XK), Room lv (A.deeper (envOfC x S.sc s.heap.objs.size f cdv)) → S.rs = true → MkAt T (cxOf (L2.CX P w) P w K mg base S.N x S.sc f cdv A outer s H E) S.nr)
    (ar : ∀ β ds Q Z, sp β ds Q Z → ds.length = ps.length) (ev : ∀ β ds Q Z, sp β ds Q Z → evB T c (sta S.N.length ds β) (finX β Q Z)) : XOk T P w K mg base (lv + 1) x sp := by
  have bd := F.bindsN hb
  have kp := F.kp
  obtain ⟨oc, od, dV, kV, doc, pm, an, cdv, ct, osl, rfl, lk, hcd, _, _⟩ := F.ex
  exact ⟨f, _, ps, hm, kp, bd, defX lk hcd Z tm hW tx hfm hf hxf hg gu hd hc (hk _) ar ev⟩
theorem fok_take {p1 p2 : Str} (hm : mg x = some (.ref f)) (F : FunD K x x prm body S.sc [] kws f fd) (hb : BindOk x prm body S.sc [p1, p2]) (Z : FnScope S.N [p1, p2] S.sc) (hN : S.N.length = 7)
    (tm : T.Mono) (hW : T.W = (P, w)) (tx : TxtOk mg base) (hfm : S.fnm = fun _ => true) (hf : FnsOk T P w K mg base lv S.n S.fn S.fg) (hxf : XfnsOk T P w K mg base lv S.nx S.xf) (hg : GlsOk T K mg S.ng S.gl ∧ GdsOk T w K mg S.ngd S.gdn) (hc : chkPB S takeC body = true) (hx : S.ex = false) (hxr : S.rs = false) (hd : S.hd = none) : FOk P w K mg base S.gd (lv + 1) x takeSp := by
  have bd := F.bindsN hb
  have kp := F.kp
  obtain ⟨oc, od, dV, kV, doc, pm, an, cdv, ct, osl, rfl, lk, hcd, _, _⟩ := F.ex
  exact ⟨f, _, [p1, p2], hm, kp, bd, takeG lk hcd Z hN tm hW tx hfm hf hxf hg hc hx hxr hd⟩
theorem fok_bag {p1 : Str} (hm : mg x = some (.ref f)) (F : FunD K x x prm body S.sc [] kws f fd) (hb : BindOk x prm body S.sc [p1]) (Z : FnScope S.N [p1] S.sc) (hN : S.N.length = 2)
    (tm : T.Mono) (hW : T.W = (P, w)) (tx : TxtOk mg base) (hfm : S.fnm = fun _ => true) (hf : FnsOk T P w K mg base lv S.n S.fn S.fg) (hxf : XfnsOk T P w K mg base lv S.nx S.xf) (hg : GlsOk T K mg S.ng S.gl ∧ GdsOk T w K mg S.ngd S.gdn) (hc : chkB S bagC body = true) (hx : S.ex = false) (hxr : S.rs = false) (hd : S.hd = none) : FOk P w K mg base S.gd (lv + 1) x bagSp := by
  have bd := F.bindsN hb
  have kp := F.kp
  obtain ⟨oc, od, dV, kV, doc, pm, an, cdv, ct, osl, rfl, lk, hcd, _, _⟩ := F.ex
  exact ⟨f, _, [p1], hm, kp, bd, bagG lk hcd Z hN tm hW tx hfm hf hxf hg hc hx hxr hd⟩
/-- the contracts of the table from k on are others -/
def Tb.from (T : Tb) (kb : Nat) (sp : Nat → DSp) : Tb := { T with fn := fun j => if kb ≤ j then sp j else T.fn j }
theorem Tb.from_new {T : Tb} {kb j : Nat} {sp : Nat → DSp} (h : kb ≤ j) : (T.from kb sp).fn j = sp j := if_pos h
theorem Tb.from_old {T : Tb} {kb j : Nat} {sp : Nat → DSp} (h : j < kb) : (T.from kb sp).fn j = T.fn j := if_neg (by omega)
theorem Tb.from_mono {T : Tb} {kb : Nat} {sp : Nat → DSp} (tm : T.Mono) (hs : ∀ k β ds (Q Q' : R → Prop), (∀ r, Q r → Q' r) → sp k β ds Q → sp k β ds Q') : (T.from kb sp).Mono := by
  refine ⟨fun j β ds Q Q' f h => ?_, tm.2⟩
  by_cases e : kb ≤ j
  · rw [Tb.from_new e] at h ⊢
    exact hs j β ds Q Q' f h
  · rw [Tb.from_old (by omega)] at h ⊢
    exact tm.1 j β ds Q Q' f h
/-- defs that call one another, by how deep they go -/
theorem fam {fn : Nat → Str} {fg : Nat → Bool} {kb ke : Nat} {sp : Nat → Nat → DSp} (hke : kb ≤ ke) (hf : FnsOk T P w K mg base lv kb fn fg) (sp0 : ∀ k β ds Q, ¬ sp 0 k β ds Q)
    (step : ∀ j, kb ≤ j → j < ke → ∃ (f : Addr) (fd : FuncData) (ps : List Str), mg (fn j) = some (.ref f) ∧ PySem.W.keepIn K (.ref f) = true ∧ Binds K fd ps [] ∧
      ∀ (n l : Nat), FnsOk (T.from kb (sp n)) P w K mg base l ke fn fg → FnG P w K mg base (fg j) (l + 1) f fd ps (liftSp K (sp (n + 1) j))) : ∀ n, FnsOk (T.from kb (sp n)) P w K mg base (lv + n) ke fn fg
  | 0 => fun j hj => by
    by_cases e : kb ≤ j
    · obtain ⟨f, fd, ps, h1, h2, h3, _⟩ := step j e hj
      rw [Tb.from_new e]
      refine ⟨f, fd, ps, h1, h2, h3, fun vs H Q E h => ?_, fun A outer s H args us vs Q E _ _ _ _ _ h => ?_⟩
      · obtain ⟨G, β, ds, _, _, _, h⟩ := h
        exact absurd h (sp0 _ _ _ _)
      · obtain ⟨G, β, ds, _, _, _, h⟩ := h
        exact absurd h (sp0 _ _ _ _)
    · rw [Tb.from_old (by omega)]
      exact hf j (by omega)
  | n + 1 => fun j hj => by
    have ih := fam hke hf sp0 step n
    by_cases e : kb ≤ j
    · obtain ⟨f, fd, ps, h1, h2, h3, h4⟩ := step j e hj
      rw [Tb.from_new e]
      exact ⟨f, fd, ps, h1, h2, h3, h4 n (lv + n) ih⟩
    · rw [Tb.from_old (by omega)]
      obtain ⟨f, fd, ps, h1, h2, h3, h4⟩ := hf j (by omega)
      exact ⟨f, fd, ps, h1, h2, h3, h4.mono (by omega)⟩
/-- a member of a family -/
theorem fam_mem {ps : List Str} {c : List CS} {sp : Nat → Nat → DSp} {kb ke j : Nat} (hm : mg x = some (.ref f)) (F : FunD K x x prm body S.sc [] kws f fd) (hb : BindOk x prm body S.sc ps) (Z : FnScope S.N ps S.sc)
    (tm : T.Mono) (sm : ∀ n k β ds (Q Q' : R → Prop), (∀ r, Q r → Q' r) → sp n k β ds Q → sp n k β ds Q') (hW : T.W = (P, w)) (tx : TxtOk mg base) (hfm : S.fnm = fun _ => true) (hn : S.n = ke) (hnx : S.nx = 0) (hg : GlsOk T K mg S.ng S.gl ∧ GdsOk T w K mg S.ngd S.gdn) (hc : chkB S c body = true) (hx : S.ex = false) (hxr : S.rs = false) (hd : S.hd = none)
    (ar : ∀ n β ds Q, sp n j β ds Q → ds.length = ps.length) (ev : ∀ n β ds Q, sp (n + 1) j β ds Q → evB (T.from kb (sp n)) c (sta S.N.length ds β) (finE β Q)) :
    ∃ (f : Addr) (fd : FuncData) (ps : List Str), mg x = some (.ref f) ∧ PySem.W.keepIn K (.ref f) = true ∧ Binds K fd ps [] ∧
      ∀ (n l : Nat), FnsOk (T.from kb (sp n)) P w K mg base l ke S.fn S.fg → FnG P w K mg base S.gd (l + 1) f fd ps (liftSp K (sp (n + 1) j)) := by
  have bd := F.bindsN hb
  have kp := F.kp
  obtain ⟨oc, od, dV, kV, doc, pm, an, cdv, ct, osl, rfl, lk, hcd, _, _⟩ := F.ex
  refine ⟨f, _, ps, hm, kp, bd, fun n l hf => ?_⟩
  exact defG (T := T.from kb (sp n)) lk hcd Z (Tb.from_mono tm (sm n)) hW tx hfm (by rw [hn]; exact hf) (fun k hk => by rw [hnx] at hk; exact absurd hk (Nat.not_lt_zero k)) hg hc hx hxr (hr_none hd) (ar (n + 1)) (ev n)
theorem FOk.mono {gd : Bool} {sp : DSp} {lv' : Nat} (h : FOk P w K mg base gd lv x sp) (hl : lv ≤ lv') : FOk P w K mg base gd lv' x sp := by
  obtain ⟨f, fd, ps, h1, h2, h3, h4⟩ := h
  exact ⟨f, fd, ps, h1, h2, h3, h4.mono hl⟩
/-- all defs, callees first, at levels L -/
theorem chainL {fn : Nat → Str} {fg : Nat → Bool} {N : Nat} (L : Nat → Nat) (hL : ∀ k, L k ≤ L (k + 1)) (step : ∀ k, k < N → FnsOk T P w K mg base (L k) k fn fg → FOk P w K mg base (fg k) (L (k + 1)) (fn k) (T.fn k)) : ∀ k, k ≤ N → FnsOk T P w K mg base (L k) k fn fg
  | 0, _ => fun j hj => absurd hj (Nat.not_lt_zero j)
  | k + 1, h => fun j hj => by
    have ih := chainL L hL step k (Nat.le_of_succ_le h)
    by_cases e : j = k
    · subst e
      exact step j (Nat.lt_of_succ_le h) ih
    · obtain ⟨f, fd, ps, h1, h2, h3, h4⟩ := ih j (by omega)
      exact ⟨f, fd, ps, h1, h2, h3, h4.mono (hL k)⟩
end
end DI

set_option Elab.async false
set_option linter.all false
set_option autoImplicit false
set_option maxRecDepth 100000
set_option maxHeartbeats 1000000
/-! DI8: helps for the evaluation of bodies. -/
namespace DI
open PySem PySem.Spec PyProof.Rows L2
def sD (l : List Str) : List D := l.map D.str
def nD (l : List Nat) : List D := l.map fun (q : Nat) => D.int (q : Int)
def IsS (d : D) (l : List Str) : Prop := d = .lst (sD l) ∨ d = .tup (sD l)
def IsN (d : D) (l : List Nat) : Prop := d = .lst (nD l) ∨ d = .tup (nD l)
theorem sD_len (l : List Str) : (sD l).length = l.length := List.length_map ..
theorem nD_len (l : List Nat) : (nD l).length = l.length := List.length_map ..
theorem sD_pf (l : List Str) : (sD l).all D.pf = true := by
  unfold sD
  rw [List.all_map, List.all_eq_true]
  exact fun _ _ => rfl
theorem nD_pf (l : List Nat) : (nD l).all D.pf = true := by
  unfold nD
  rw [List.all_map, List.all_eq_true]
  exact fun _ _ => rfl
theorem beqDec {α : Type} [BEq α] [LawfulBEq α] [DecidableEq α] (a b : α) : (a == b) = decide (a = b) := by
  rw [Bool.eq_iff_iff, beq_iff_eq, decide_eq_true_eq]
theorem eqD_str {x y : Str} : eqD (.str x) (.str y) = decide (x = y) := by
  unfold eqD
  rw [D.py, D.py, PyData.eqv]
  exact beqDec x y
theorem eqD_bl {x y : Bool} : eqD (.bl x) (.bl y) = decide (x = y) := by
  unfold eqD
  rw [D.py, D.py, PyData.eqv]
  exact beqDec x y
def eqDs : List D → List D → Bool
  | [], [] => true
  | x :: xs, y :: ys => eqD x y && eqDs xs ys
  | _, _ => false
theorem eqvAll_eq (xs ys : List D) : PyData.eqvAll (pyA xs) (pyA ys) = eqDs xs ys := by
  induction xs generalizing ys with
  | nil => cases ys with
    | nil => rfl
    | cons y ys => rfl
  | cons x xs ih => cases ys with
    | nil => rfl
    | cons y ys =>
      rw [pyA, pyA, PyData.eqvAll, ih]
      rfl
theorem eqD_tup {xs ys : List D} : eqD (.tup xs) (.tup ys) = eqDs xs ys := by
  unfold eqD
  rw [D.py, D.py, PyData.eqv]
  exact eqvAll_eq xs ys
theorem eqD_lst {xs ys : List D} : eqD (.lst xs) (.lst ys) = eqDs xs ys := by
  unfold eqD
  rw [D.py, D.py, PyData.eqv]
  exact eqvAll_eq xs ys
theorem eqDs_nD : ∀ (a b : List Nat), eqDs (nD a) (nD b) = decide (a = b)
  | [], [] => rfl
  | [], y :: ys => rfl
  | x :: xs, [] => rfl
  | x :: xs, y :: ys => by
    show (eqD (.int x) (.int y) && eqDs (nD xs) (nD ys)) = _
    rw [eqD_int, eqDs_nD xs ys, Bool.eq_iff_iff]
    simp
    omega
theorem eqDs_sD : ∀ (a b : List Str), eqDs (sD a) (sD b) = decide (a = b)
  | [], [] => rfl
  | [], y :: ys => rfl
  | x :: xs, [] => rfl
  | x :: xs, y :: ys => by
    show (eqD (.str x) (.str y) && eqDs (sD xs) (sD ys)) = _
    rw [eqD_str, eqDs_sD xs ys, Bool.eq_iff_iff]
    simp
theorem inD_nD (q : Nat) (l : List Nat) : inD (.int (q : Int)) (nD l) = decide (q ∈ l) := by
  unfold inD nD
  rw [List.any_map, Bool.eq_iff_iff, List.any_eq_true, decide_eq_true_eq]
  constructor
  · rintro ⟨x, hx, e⟩
    simp only [Function.comp, eqD_int, decide_eq_true_eq] at e
    have : x = q := by omega
    exact this ▸ hx
  · intro h
    exact ⟨q, h, by simp only [Function.comp, eqD_int, decide_eq_true_eq]⟩
theorem inD_neg (i : Int) (h : i < 0) (l : List Nat) : inD (.int i) (nD l) = false := by
  unfold inD nD
  rw [List.any_map, List.any_eq_false]
  intro x hx
  simp only [Function.comp, eqD_int, decide_eq_true_eq]
  omega
theorem inD_sD (q : Str) (l : List Str) : inD (.str q) (sD l) = decide (q ∈ l) := by
  unfold inD sD
  rw [List.any_map, Bool.eq_iff_iff, List.any_eq_true, decide_eq_true_eq]
  constructor
  · rintro ⟨x, hx, e⟩
    simp only [Function.comp, eqD_str, decide_eq_true_eq] at e
    exact e ▸ hx
  · intro h
    exact ⟨q, h, by simp only [Function.comp, eqD_str, decide_eq_true_eq]⟩
theorem len_S {td : D} {t : List Str} {Q : R → Prop} (h : IsS td t) (q : Q (.fz (.int t.length))) : semB .len [td] Q := by
  rcases h with rfl | rfl
  · show Q (.fz (.int (sD t).length))
    rw [sD_len]; exact q
  · show Q (.fz (.int (sD t).length))
    rw [sD_len]; exact q
theorem len_N {td : D} {t : List Nat} {Q : R → Prop} (h : IsN td t) (q : Q (.fz (.int t.length))) : semB .len [td] Q := by
  rcases h with rfl | rfl
  · show Q (.fz (.int (nD t).length))
    rw [nD_len]; exact q
  · show Q (.fz (.int (nD t).length))
    rw [nD_len]; exact q
theorem atN {α : Type} {xs : List α} {i : Nat} {x : α} (h : xs[i]? = some x) : atI xs (i : Int) = some x := by
  unfold atI ixN
  have hl := (List.getElem?_eq_some_iff.mp h).1
  rw [if_pos (by omega), if_pos (by omega)]
  simpa using h
theorem sD_at {t : List Str} {j : Nat} (hj : j < t.length) : atI (sD t) (j : Int) = some (.str t[j]) := atN (by unfold sD; rw [List.getElem?_map, List.getElem?_eq_getElem hj]; rfl)
theorem nD_at {t : List Nat} {j : Nat} (hj : j < t.length) : atI (nD t) (j : Int) = some (.int (t[j] : Nat)) := atN (by unfold nD; rw [List.getElem?_map, List.getElem?_eq_getElem hj]; rfl)
theorem ix_S {W : Program × World} {td : D} {t : List Str} {Q : R → Prop} {i : Nat} {w : Str} (h : IsS td t) (e : t[i]? = some w) (q : Q (.fz (.str w))) : sem2 W .ix td (.int (i : Int)) Q := by
  have e2 : (sD t)[i]? = some (.str w) := by unfold sD; rw [List.getElem?_map, e]; rfl
  rcases h with rfl | rfl
  · exact ⟨_, atN e2, q⟩
  · exact ⟨_, atN e2, q⟩
theorem in_N {W : Program × World} {td : D} {t : List Nat} {Q : R → Prop} {i : Int} (h : IsN td t) (q : Q (.fz (.bl (inD (.int i) (nD t))))) : sem2 W .isin (.int i) td Q := by
  rcases h with rfl | rfl
  · exact ⟨.inl ⟨rfl, nD_pf t⟩, q⟩
  · exact ⟨.inl ⟨rfl, nD_pf t⟩, q⟩
theorem forB {T : Tb} (tm : T.Mono) {g : CG} {b : List CS} {ds : List D} {E : En} {ρ : Sta} (I : Nat → Sta → Prop) (h0 : I 0 ρ)
    (hs : ∀ i d ρ, ds[i]? = some d → I i ρ → asgG g d ρ fun ρ3 => evB T b ρ3 ⟨I (i + 1), E.rt, E.nx, I (i + 1), E.xc⟩) (he : ∀ ρ, I ds.length ρ → E.nx ρ) :
    forD (fun d ρ2 E2 => asgG g d ρ2 fun ρ3 => evB T b ρ3 E2) ds ρ E := by
  induction ds generalizing I ρ with
  | nil => exact he ρ h0
  | cons d ds ih =>
    rw [forD]
    refine asgG_mono (fun ρ3 h => evB_mono tm b (E := ⟨I (0 + 1), E.rt, E.nx, I (0 + 1), E.xc⟩) (E' := { nx := fun ρ' => forD _ ds ρ' E, ct := fun ρ' => forD _ ds ρ' E, bk := E.nx, rt := E.rt, xc := E.xc }) ⟨?_, fun _ _ h => h, fun _ h => h, ?_, fun _ _ h => h⟩ h) (hs 0 d ρ rfl h0)
    · exact fun ρ' h' => ih (fun i => I (i + 1)) h' (fun i d ρ e h => hs (i + 1) d ρ (by simpa using e) h) he
    · exact fun ρ' h' => ih (fun i => I (i + 1)) h' (fun i d ρ e h => hs (i + 1) d ρ (by simpa using e) h) he
theorem ifB {b : Bool} {x y : Prop} (h1 : b = true → x) (h2 : b = false → y) : if b = true then x else y := by
  cases b with
  | true => rw [if_pos rfl]; exact h1 rfl
  | false => rw [if_neg (by decide)]; exact h2 rfl
theorem ifS {b : Bool} {x : Prop} (h : x) : if b = true then x else x := by
  cases b
  · rw [if_neg (by decide)]; exact h
  · rw [if_pos rfl]; exact h
theorem ifF {x y : Prop} (h : y) : if false = true then x else y := by
  rw [if_neg (by decide)]
  exact h
theorem ifT {x y : Prop} (h : x) : if true = true then x else y := by
  rw [if_pos rfl]
  exact h
/-- a for loop by an invariant -/
theorem forI {step : D → Sta → En → Prop} {ds : List D} {E : En} {ρ : Sta} (I : Nat → Sta → Prop) (h0 : I 0 ρ)
    (hs : ∀ i d ρ (E2 : En), ds[i]? = some d → I i ρ → (∀ ρ, I (i + 1) ρ → E2.nx ρ) → (∀ ρ, I (i + 1) ρ → E2.ct ρ) → (∀ r ρ, E.rt r ρ → E2.rt r ρ) → (∀ ρ, E.nx ρ → E2.bk ρ) → step d ρ E2) (he : ∀ ρ, I ds.length ρ → E.nx ρ) :
    forD step ds ρ E := by
  induction ds generalizing I ρ with
  | nil => exact he ρ h0
  | cons d ds ih =>
    rw [forD]
    have go : ∀ ρ, I (0 + 1) ρ → forD step ds ρ E := fun ρ' h' => ih (fun i => I (i + 1)) h' (fun i d ρ E2 e h => hs (i + 1) d ρ E2 (by simpa using e) h) he
    exact hs 0 d ρ _ rfl h0 go go (fun _ _ h => h) fun _ h => h
/-- a while loop by an invariant and a measure -/
theorem whI {c : Sta → (Bool → Sta → Prop) → Prop} {b : Sta → En → Prop} {ρ : Sta} {E : En} (I : Nat → Sta → Prop) {m : Nat} (h0 : I m ρ)
    (hs : ∀ m ρ (K : Bool → Sta → Prop), I m ρ → (∀ ρ', (∀ E2 : En, (∀ m' ρ2, m' < m → I m' ρ2 → E2.nx ρ2) → (∀ m' ρ2, m' < m → I m' ρ2 → E2.ct ρ2) → (∀ r ρ, E.rt r ρ → E2.rt r ρ) → (∀ ρ, E.nx ρ → E2.bk ρ) → b ρ' E2) → K true ρ') → (∀ ρ', E.nx ρ' → K false ρ') → c ρ K) : whileD c b ρ E := by
  refine ⟨I, ⟨m, h0⟩, fun m ρ h => hs m ρ _ h (fun ρ' hb => ?_) fun ρ' h => ?_⟩
  · rw [if_pos rfl]
    exact hb _ (fun m' ρ2 h1 h2 => ⟨m', h1, h2⟩) (fun m' ρ2 h1 h2 => ⟨m', h1, h2⟩) (fun _ _ h => h) fun _ h => h
  · rw [if_neg (by decide)]
    exact h
/-- a comprehension that changes nothing: each item is kept by f -/
theorem compF {step : D → Sta → (Option D → Sta → Prop) → Prop} {ρ : Sta} {Q : List D → Sta → Prop} (f : D → Option D) : ∀ {ds acc : List D}, acc.length + ds.length < sizeLine → (∀ d ∈ ds, ∀ k : Option D → Sta → Prop, k (f d) ρ → step d ρ k) → Q (acc ++ ds.filterMap f) ρ → compD step ds acc ρ Q
  | [], acc, _, _, q => by simpa [compD] using q
  | d :: ds, acc, hl, hs, q => by
    refine ⟨by simp only [List.length_cons] at hl; omega, hs d List.mem_cons_self _ (compF f (ds := ds) ?_ (fun e he => hs e (List.mem_cons_of_mem _ he)) ?_)⟩
    · rw [List.length_append]
      simp only [List.length_cons] at hl
      have : (f d).toList.length ≤ 1 := by cases f d <;> simp
      omega
    · rw [List.append_assoc]
      cases e : f d with
      | none => simpa [e] using q
      | some x => simpa [e] using q
/-- a comprehension of draws -/
theorem compP {step : D → Sta → (Option D → Sta → Prop) → Prop} {ρ : Sta} {Q : List D → Sta → Prop} (P : D → Prop) : ∀ {ds acc : List D}, acc.length + ds.length < sizeLine → (∀ d ∈ ds, ∀ k : Option D → Sta → Prop, (∀ x, P x → k (some x) ρ) → step d ρ k) → (∀ xs : List D, xs.length = ds.length → (∀ x ∈ xs, P x) → Q (acc ++ xs) ρ) → compD step ds acc ρ Q
  | [], acc, _, _, q => by simpa [compD] using q [] rfl (fun _ h => nomatch h)
  | d :: ds, acc, hl, hs, q => by
    refine ⟨by simp only [List.length_cons] at hl; omega, hs d List.mem_cons_self _ fun x hx => compP P (ds := ds) ?_ (fun e he => hs e (List.mem_cons_of_mem _ he)) fun xs h1 h2 => ?_⟩
    · simp only [List.length_append, Option.toList, List.length_cons, List.length_nil] at hl ⊢
      omega
    · have := q (x :: xs) (by simp [h1]) (fun y hy => by
        rcases List.mem_cons.mp hy with rfl | h
        · exact hx
        · exact h2 y h)
      simpa [Option.toList] using this
theorem sD_get {t : List Str} {i : Nat} {d : D} (h : (sD t)[i]? = some d) : ∃ h : i < t.length, d = .str t[i] := by
  unfold sD at h
  rw [List.getElem?_map] at h
  cases e : t[i]? with
  | none => rw [e] at h; cases h
  | some w =>
    rw [e] at h
    obtain ⟨h1, h2⟩ := List.getElem?_eq_some_iff.mp e
    cases h
    exact ⟨h1, by rw [h2]⟩
theorem nD_get {t : List Nat} {i : Nat} {d : D} (h : (nD t)[i]? = some d) : ∃ h : i < t.length, d = .int (t[i] : Nat) := by
  unfold nD at h
  rw [List.getElem?_map] at h
  cases e : t[i]? with
  | none => rw [e] at h; cases h
  | some w =>
    rw [e] at h
    obtain ⟨h1, h2⟩ := List.getElem?_eq_some_iff.mp e
    cases h
    exact ⟨h1, by rw [h2]⟩
theorem rangeD_at {n i : Nat} {d : D} (h : (rangeD 0 (n : Int))[i]? = some d) : i < n ∧ d = .int (i : Int) := by
  unfold rangeD at h
  rw [List.getElem?_map] at h
  cases e : (List.range ((n : Int) - 0).toNat)[i]? with
  | none => rw [e] at h; cases h
  | some j =>
    rw [e] at h
    obtain ⟨h1, h2⟩ := List.getElem?_eq_some_iff.mp e
    simp at h1 h2
    subst h2
    simp at h
    exact ⟨h1, h.symm⟩
theorem rangeD_n {n : Nat} : (rangeD 0 (n : Int)).length = n := by
  unfold rangeD
  simp
end DI

set_option Elab.async false
set_option linter.all false
set_option autoImplicit false
set_option maxRecDepth 100000
set_option maxHeartbeats 1000000
/-! DI8b: what may be compared. -/
namespace DI
open PySem PySem.Spec PyProof.Rows L2
structure CmpN (n : Nat) (d : D) : Prop where
  ok : d.ok = true
  lay : d.py.canLay0 = true
  dep : d.py.depth ≤ n
theorem CmpN.cmp {n : Nat} {d : D} (h : CmpN n d) (hn : n ≤ 64) : d.cmp = true := by
  unfold D.cmp SeqAt.shaped
  rw [h.ok, h.lay, decide_eq_true (Nat.le_trans h.dep hn)]
  rfl
theorem CmpN.mono {n m : Nat} {d : D} (h : CmpN n d) (hn : n ≤ m) : CmpN m d := ⟨h.ok, h.lay, Nat.le_trans h.dep hn⟩
theorem CmpN.int {n : Nat} (i : Int) : CmpN n (.int i) := ⟨rfl, rfl, Nat.zero_le n⟩
theorem CmpN.bl {n : Nat} (i : Bool) : CmpN n (.bl i) := ⟨rfl, rfl, Nat.zero_le n⟩
theorem CmpN.non {n : Nat} : CmpN n .non := ⟨rfl, rfl, Nat.zero_le n⟩
theorem CmpN.str {n : Nat} {x : Str} (h : PyData.strOk x = true) : CmpN n (.str x) := ⟨rfl, h, Nat.zero_le n⟩
theorem cmpA {n : Nat} : ∀ {ds : List D}, (∀ d ∈ ds, CmpN n d) → okA ds = true ∧ PyData.canLayAll0 (pyA ds) = true ∧ PyData.depthAll (pyA ds) ≤ n
  | [], _ => ⟨rfl, rfl, Nat.zero_le n⟩
  | d :: ds, h => by
    obtain ⟨h1, h2, h3⟩ := cmpA (ds := ds) fun e he => h e (List.mem_cons_of_mem _ he)
    have q := h d List.mem_cons_self
    refine ⟨?_, ?_, ?_⟩
    · rw [okA, q.ok, h1]; rfl
    · rw [pyA, PyData.canLayAll0, q.lay, h2]; rfl
    · rw [pyA, PyData.depthAll]
      have := q.dep
      omega
theorem CmpN.tup {n : Nat} {ds : List D} (h : ∀ d ∈ ds, CmpN n d) : CmpN (n + 1) (.tup ds) := by
  obtain ⟨h1, h2, h3⟩ := cmpA h
  refine ⟨?_, ?_, ?_⟩
  · rw [D.ok]; exact h1
  · rw [D.py, PyData.canLay0]; exact h2
  · rw [D.py, PyData.depth]; omega
theorem CmpN.lst {n : Nat} {ds : List D} (h : ∀ d ∈ ds, CmpN n d) : CmpN (n + 1) (.lst ds) := by
  obtain ⟨h1, h2, h3⟩ := cmpA h
  refine ⟨?_, ?_, ?_⟩
  · rw [D.ok]; exact h1
  · rw [D.py, PyData.canLay0]; exact h2
  · rw [D.py, PyData.depth]; omega
theorem CmpN.nD (l : List Nat) : ∀ d ∈ nD l, CmpN 0 d := fun d hd => by
  obtain ⟨q, _, rfl⟩ := List.mem_map.mp hd
  exact .int _
theorem CmpN.sD {l : List Str} (h : ∀ x ∈ l, PyData.strOk x = true) : ∀ d ∈ sD l, CmpN 0 d := fun d hd => by
  obtain ⟨q, hq, rfl⟩ := List.mem_map.mp hd
  exact .str (h q hq)
/-- what may be shown -/
structure ShwN (n m : Nat) (d : D) : Prop where
  ok : d.ok = true
  sh : d.py.showable = true
  dep : d.py.depth ≤ n
  len : d.py.shown.length ≤ m
theorem ShwN.shw {n m : Nat} {d : D} (h : ShwN n m d) (hn : n ≤ 64) (hm : m ≤ sizeLine) : d.shw = true := by
  unfold D.shw
  rw [h.ok, h.sh, decide_eq_true (Nat.le_trans h.dep hn), decide_eq_true (Nat.le_trans h.len hm)]
  rfl
theorem ShwN.mono {n m n' m' : Nat} {d : D} (h : ShwN n m d) (h1 : n ≤ n') (h2 : m ≤ m') : ShwN n' m' d := ⟨h.ok, h.sh, Nat.le_trans h.dep h1, Nat.le_trans h.len h2⟩
theorem ShwN.str {n : Nat} {x : Str} {k : Nat} (h : PyData.strOk x = true) (hk : x.length ≤ k) : ShwN n (10 * k + 2) (.str x) := by
  refine ⟨rfl, rfl, Nat.zero_le n, ?_⟩
  show (reprText x).length ≤ _
  have := PySem.StrLaws.reprText_len x fun c hc => by
    unfold PyData.strOk at h
    rw [Array.all_eq_true_iff_forall_mem] at h
    have := h c (Array.mem_toList_iff.mp hc)
    simp at this
    omega
  omega
theorem ShwN.bl {n : Nat} (x : Bool) : ShwN n 5 (.bl x) := by
  refine ⟨rfl, rfl, Nat.zero_le n, ?_⟩
  cases x <;> decide +kernel
theorem ShwN.non {n : Nat} : ShwN n 5 .non := by
  refine ⟨rfl, rfl, Nat.zero_le n, ?_⟩
  decide +kernel
theorem shwA {n m : Nat} : ∀ {ds : List D}, (∀ d ∈ ds, ShwN n m d) → okA ds = true ∧ PyData.showableAll (pyA ds) = true ∧ PyData.depthAll (pyA ds) ≤ n ∧ ((PyData.shownAll (pyA ds)).map (·.length)).sum ≤ ds.length * m ∧ (PyData.shownAll (pyA ds)).length = ds.length
  | [], _ => ⟨rfl, rfl, Nat.zero_le n, Nat.zero_le _, rfl⟩
  | d :: ds, h => by
    obtain ⟨h1, h2, h3, h4, h5⟩ := shwA (ds := ds) fun e he => h e (List.mem_cons_of_mem _ he)
    have q := h d List.mem_cons_self
    refine ⟨?_, ?_, ?_, ?_, ?_⟩
    · rw [okA, q.ok, h1]; rfl
    · rw [pyA, PyData.showableAll, q.sh, h2]; rfl
    · rw [pyA, PyData.depthAll]
      have := q.dep
      omega
    · rw [pyA, PyData.shownAll, List.map_cons, List.sum_cons, List.length_cons, Nat.succ_mul]
      have := q.len
      omega
    · rw [pyA, PyData.shownAll, List.length_cons, List.length_cons, h5]
theorem ShwN.lst {n m : Nat} {ds : List D} (h : ∀ d ∈ ds, ShwN n m d) : ShwN (n + 1) (ds.length * (m + 2) + 3) (.lst ds) := by
  obtain ⟨h1, h2, h3, h4, h5⟩ := shwA h
  refine ⟨?_, ?_, ?_, ?_⟩
  · rw [D.ok]; exact h1
  · rw [D.py, PyData.showable]; exact h2
  · rw [D.py, PyData.depth]; omega
  · rw [D.py, PyData.shown]
    have := listText_len_le (PyData.shownAll (pyA ds))
    rw [h5] at this
    rw [Nat.mul_add]
    omega
theorem ShwN.tup {n m : Nat} {ds : List D} (h : ∀ d ∈ ds, ShwN n m d) : ShwN (n + 1) (ds.length * (m + 2) + 3) (.tup ds) := by
  obtain ⟨h1, h2, h3, h4, h5⟩ := shwA h
  refine ⟨?_, ?_, ?_, ?_⟩
  · rw [D.ok]; exact h1
  · rw [D.py, PyData.showable]; exact h2
  · rw [D.py, PyData.depth]; omega
  · rw [D.py, PyData.shown]
    have := tupleText_len_le (PyData.shownAll (pyA ds))
    rw [h5] at this
    rw [Nat.mul_add]
    omega
theorem okA_sD (l : List Str) : okA (sD l) = true := by
  induction l with
  | nil => rfl
  | cons x l ih => exact ih
end DI

set_option Elab.async false
set_option linter.all false
set_option autoImplicit false
set_option maxRecDepth 100000
set_option maxHeartbeats 1000000
/-! DIh: the def that hears: try: return ("told", act()) / except F as e: return ("row", e.path) if isinstance(e, N) else .. -/
namespace DI
open PySem PySem.Spec PyProof.Rows L2 LamX
theorem isi_ans {x C : Addr} {ox : Obj} : Answers (fun s => s.heap.get? x = some ox ∧ ox.cls = .ref C) (.ref x) (.ref C) true := by
  intro dep tk prog w A R s hs
  obtain ⟨h0, g, d, tt, os⟩ := s
  obtain ⟨⟨p, pc⟩, hq⟩ := hs
  have LT : PySem.W.Looks (model prog w) h0 (typeOf (.ref x)) (.ref C) := pc ▸ (PySem.W.Looks.ld p).andThen .now
  unfold Builtin.«isinstance.nested»
  refine wpAny_bind (LT.at ?_)
  rw [if_pos (beq_self_eq_true _)]
  first
    | exact wpAny_bind (wpAny_rule (hq tt))
    | exact wpAny_bind (wpAny_rule (wpAny_pure (hq tt)))
theorem isi_exact {prog : Program} {w : World} {A : Around} {E : Value → Shared → Prop} {s : Shared} {Q : Value → Shared → Prop} {x C : Addr} {ox : Obj} (hx : s.heap.get? x = some ox) (hc : ox.cls = .ref C) (h : ∀ tk, Q (.bool true) { s with toks := tk }) :
    wpAny (model prog w) A (call (.builtin "isinstance") [.ref x, .ref C]) Q E s :=
  call_isinstance (S := fun _ R s => (s.heap.get? x = some ox ∧ ox.cls = .ref C) ∧ ∀ tk, R (.ok (.ret (.bool true))) { s with toks := tk })
    (fun prog w A R s hs => isinstance_outer (isi_ans 0 _ prog w A R s hs) (fun e => by cases e)) ⟨⟨hx, hc⟩, h⟩
/-- isinstance(e, C), e the caught error, of this very class -/
def rIsX (a C : Addr) : List V → Hp → VK → Prop := fun xs H Q => xs = [.ref a, .ref C] ∧ Q (.bl true) H
theorem call_isX {X : Cx} {a C : Addr} {oe : Obj} {pn : List (Addr × Obj)} (hz : oe.cls = .ref C) : CallR (X.suite a ((a, oe) :: pn)) (.builtin "isinstance") (rIsX a C) := by
  intro pins s σ H xs us Q I r h
  obtain ⟨rfl, q⟩ := h
  cases r with
  | cons rx rr =>
    cases rr with
    | cons rt rr =>
      cases rr
      cases rx
      cases rt
      obtain ⟨hget, _⟩ := I.pin (a, oe) (List.mem_append.mpr (.inl List.mem_cons_self))
      exact isi_exact hget hz fun tk => ⟨.bl true, H, I.kept (t' := tk) fun _ _ z => z, rfl, q⟩
/-- the body of the def that hears -/
def hearB (a fe e nr fx : Str) (p1 p2 p3 p4 p5 p6 p7 p8 p9 p10 p11 p12 p13 p14 p15 p16 p17 p18 p19 p20 p21 : Pos) (j1 j2 j3 j4 k1 k2 k3 : Nat) : List Stmt :=
  [.Try [.Return (some (.Tuple [.Constant (.str "told") j1 p1, .Call (.Name a p2) [] [] p3] k1 p4)) p5]
    [.ExceptHandler (some (.Name fe p6)) (some e) [.Return (some (.IfExp (.Call (.Name "isinstance" p7) [.Name e p8, .Name nr p9] [] p10)
      (.Tuple [.Constant (.str "row") j2 p11, .Attribute (.Name e p12) fx p13] k2 p14) (.Tuple [.Constant (.str "other") j3 p15, .Constant .none j4 p16] k3 p17) p18)) p19] p20] [] [] p21]
end DI
namespace DI
open PySem PySem.Spec PyProof.Rows L2 LamX
theorem hear_gives {T : Tb} {X : Cx} {Ng : List Str} {x a fe e nr : Str} {q : Str} {sg : Scope} {g CF : Addr} {cdg : Value} {p1 p2 p3 p4 p5 p6 p7 p8 p9 p10 p11 p12 p13 p14 p15 p16 p17 p18 p19 p20 p21 : Pos} {j1 j2 j3 j4 k1 k2 k3 : Nat}
    (hN : Ng = [a, e]) (hae : a ≠ e) (he : sg.names.lookup e = some .local) (hfe : sg.names.lookup fe = some .globalImplicit) (hmf : X.mg fe = some (.ref CF)) (hdf : (fe == ("__debug__" : Str)) = false)
    (hnr : sg.names.lookup nr = some .globalImplicit) (hmn : X.mg nr = some (.ref T.cn)) (hdn : (nr == ("__debug__" : Str)) = false) (his : sg.names.lookup ("isinstance" : Str) = some .globalImplicit) (hmi : X.mg "isinstance" = none)
    (hed : (e == ("__debug__" : Str)) = false) (hec : (e == ("__classdict__" : Str)) = false)
    (hx : PySem.W.exmOne X.K (.ref T.cn) (.ref CF) = some true) (xf : XfC X.K T.cn) (hno : PySem.W.findIn X.K (.ref T.cn) T.fx = some none) :
    GivesTo X Ng x sg g cdg (hearB a fe e nr T.fx p1 p2 p3 p4 p5 p6 p7 p8 p9 p10 p11 p12 p13 p14 p15 p16 p17 p18 p19 p20 p21 j1 j2 j3 j4 k1 k2 k3) a q (TTh T) := by
  intro f c' s H Q tl act hc h
  subst hN
  have hgl : Gl (cxOf C8.CX0 X.prog X.w X.K X.mg X.base [a, e] x sg g cdg X.A X.stack s H C8.E0).nox fe := hfe
  refine ⟨_, pss_one (ps_try_as (X := (cxOf C8.CX0 X.prog X.w X.K X.mg X.base [a, e] x sg g cdg X.A X.stack s H C8.E0).nox) (c := .ref CF) (i := 1) (n := e) (Wout := fun _ _ _ _ => False)
      (tb := fun W D σ H => ∃ Ech : XK, (∀ cls d σ' H', Ech cls d H' → W cls d σ' H') ∧ σ[0]? = some (some (.ref f)) ∧ H c' = some (CodeO c' q) ∧ tl Ech H fun v H' => ∀ p, H' p = none → D.rt (.ref p) (upd H' p (.tup [.str "told", v])))
      (ts := fun a' cls d D σ H => (1 < σ.length → σ[1]? = some (some (.ref a'))) ∧ cls = .ref T.cn ∧ ∃ dx v, d = some dx ∧ H dx = some (.xd [(T.fx, v)]) ∧ ∀ p, H p = none → D.rt (.ref p) (upd H p (.tup [.str "row", v])))
      rfl rfl (show ([a, e] : List Str).Nodup by simp [hae]) rfl he ⟨hgl, hdf, .inl hmf⟩ LamX.takes0 (fun W pn xe tk _ => ?_) (fun a' oe cls d pn hz hf => ?_)), ?_⟩
  · refine ⟨fun pins s' σ H' D I h' => ?_⟩
    obtain ⟨Ech, hW, h1, h2, h3⟩ := h'
    have hp := act W pn xe Ech p2 p3 tk hW
    have hq : PSs _ [.Return (some (.Tuple [.Constant (.str "told") j1 p1, .Call (.Name a p2) [] [] p3] k1 p4)) p5] _ := pss_one (ps_ret (pos := p5) (pe_tup (x1 := k1) (pos := p4) (pa_cons (pe_str (x := "told") (pos := p1)) (pa_cons hp pa_nil rfl) rfl)))
    refine hq.run pins s' σ H' D I ⟨h1, h2, ?_⟩
    have e : (fun (v : V) (H' : Hp) => ∀ p, H' p = none → D.rt (.ref p) (upd H' p (.tup [.str "told", v]))) = fun (v : V) (H2 : Hp) => ([V.str "told", v] : List V).length ≤ sizeLine ∧ ∀ p, H2 p = none → D.rt (.ref p) (upd H2 p (.tup [.str "told", v])) := by
      funext v H2
      exact propext ⟨fun h => ⟨by rw [sizeLine_eq]; exact (by decide : 2 ≤ 16777216), h⟩, fun h => h.2⟩
    rw [e] at h3
    exact h3
  · refine ⟨fun pins s' σ H' D I h' => ?_⟩
    obtain ⟨h1, rfl, dx, v, rfl, hdx, h2⟩ := h'
    have hl : σ[1]? = some (some (.ref a')) := h1 (by rw [I.len]; exact Nat.lt_succ_self 1)
    have ve : Vis sg e := .inl he
    have pe1 := pe_var (X := ((cxOf C8.CX0 X.prog X.w X.K X.mg X.base [a, e] x sg g cdg X.A X.stack s H C8.E0).nox).suite a' ((a', oe) :: pn)) (pos := p8) (i := 1) (x := e) rfl ve hed hec
    have pe2 := pe_var (X := ((cxOf C8.CX0 X.prog X.w X.K X.mg X.base [a, e] x sg g cdg X.A X.stack s H C8.E0).nox).suite a' ((a', oe) :: pn)) (pos := p12) (i := 1) (x := e) rfl ve hed hec
    have pn1 := pe_glob (X := ((cxOf C8.CX0 X.prog X.w X.K X.mg X.base [a, e] x sg g cdg X.A X.stack s H C8.E0).nox).suite a' ((a', oe) :: pn)) (pos := p9) (v := .ref T.cn) hnr hmn rfl hdn
    have pc := pe_callB (pos := p10) (p := p7) (call_isX (X := (cxOf C8.CX0 X.prog X.w X.K X.mg X.base [a, e] x sg g cdg X.A X.stack s H C8.E0).nox) (pn := pn) hz.1) his hmi (by decide +kernel) (pa_cons pe1 (pa_cons pn1 pa_nil rfl) rfl)
    have px := pe_xf (X := (cxOf C8.CX0 X.prog X.w X.K X.mg X.base [a, e] x sg g cdg X.A X.stack s H C8.E0).nox) (pos := p13) (n := T.fx) xf hno hz hf pe2
    have hq : PSs _ [.Return (some (.IfExp (.Call (.Name "isinstance" p7) [.Name e p8, .Name nr p9] [] p10) (.Tuple [.Constant (.str "row") j2 p11, .Attribute (.Name e p12) T.fx p13] k2 p14) (.Tuple [.Constant (.str "other") j3 p15, .Constant .none j4 p16] k3 p17) p18)) p19] _ := pss_one (ps_ret (pos := p19) (pe_ifExp (pos := p18) (pt_truth pc (plain_of rfl _)) (pe_tup (x1 := k2) (pos := p14) (pa_cons (pe_str (x := "row") (pos := p11)) (pa_cons px pa_nil rfl) rfl)) (pe_tup (x1 := k3) (pos := p17) (pa_cons (pe_str (x := "other") (pos := p15)) (pa_cons (pe_non (pos := p16)) pa_nil rfl) rfl))))
    refine hq.run pins s' σ H' D I ?_
    refine ⟨.ref a', hl, rfl, ?_⟩
    refine ⟨true, rfl, ?_⟩
    refine ⟨.ref a', hl, rfl, rfl, dx, _, v, rfl, hdx, ?_, ?_⟩
    · simp [List.lookup]
    · exact ⟨by rw [sizeLine_eq]; exact (by decide : 2 ≤ 16777216), h2⟩
  · refine ⟨fun cls d H' => cls = .ref T.cn ∧ ∃ dx v, d = some dx ∧ H' dx = some (.xd [(T.fx, v)]) ∧ ∀ p, H' p = none → Q (.ref p) (upd H' p (.tup [.str "row", v])), fun cls d σ' H' hh => ?_, rfl, hc, h⟩
    obtain ⟨rfl, dx, v, rfl, h1, h2⟩ := hh
    refine ⟨true, hx, fun _ a' ha => ⟨fun hl => ?_, rfl, dx, v, rfl, h1, h2⟩, fun z => by cases z⟩
    rw [List.length_set] at hl
    exact List.getElem?_set_self hl
end DI

set_option Elab.async false
set_option linter.all false
set_option autoImplicit false
set_option maxRecDepth 100000
set_option maxHeartbeats 1000000
/-! DIk: x(lambda: f(..)), x the def that hears. -/
namespace DI
open PySem PySem.Spec PyProof.Rows L2
theorem noPrm_of {p : Arguments} (h : noPrm p = true) : p = ⟨[], [], none, [], [], none, []⟩ := by
  obtain ⟨a, b, c, d, e, f, g⟩ := p
  simp only [noPrm, Bool.and_eq_true, List.isEmpty_iff, Option.isNone_iff_eq_none] at h
  obtain ⟨⟨⟨⟨⟨⟨rfl, rfl⟩, rfl⟩, rfl⟩, rfl⟩, rfl⟩, rfl⟩ := h
  rfl
theorem heard_at {T : Tb} {X : Cx} {hn a : Str} {g c Pt : Addr} {pg : Arguments} {bg : List Stmt} {sg : Scope} {dV kV doc pm cdv ct oc : Value} {an od : Option Addr} {osl : Array (Option Value)} {Ng : List Str}
    (hg : Gl X hn) (hm : X.mg hn = some (.ref g)) (hk : PySem.W.keepIn X.K (.ref g) = true) (lk : X.K.lookup g = some ⟨oc, od, .func (PySem.W.fnOf hn hn pg bg sg dV kV doc pm an cdv ct), osl⟩) (hcg : PySem.W.codeIn X.K cdv hn = true)
    (hb : L2.Binds X.K (PySem.W.fnOf hn hn pg bg sg dV kV doc pm an cdv ct) [a] []) (Sg : FnScope Ng [a] sg) (hNg : Ng[0]? = some a) (hva : Vis sg a) (hdb : (hn == ("__debug__" : Str)) = false) (hd : (a == ("__debug__" : Str)) = false) (hcd : (a == ("__classdict__" : Str)) = false)
    (hG : LamX.GivesTo X Ng hn sg g cdv bg a (X.env.qual ++ "<lambda>") (TTh T))
    (TB : LamX.TabB X.base X.mg c Pt) (hcode : X.env.code = .ref c) (hmT : (Pt, X.env.qual ++ "<lambda>") ∈ T.tabs) (hu : ∀ p ∈ T.tabs, p.1 = Pt → p.2 = X.env.qual ++ "<lambda>") : HeardAt T X hn := by
  intro params body scope t p lpos pos k hr L hp hbody
  have e := noPrm_of hp
  subst e
  refine LamX.pe_lamcall hg hm hk lk hcg hb Sg hNg hva hG TB hcode hmT hu hr L rfl (fun q cl pm cv ctv => ?_) hbody hdb hd hcd
  first | rfl | kernel_rfl
end DI

set_option Elab.async false
set_option linter.all false
set_option autoImplicit false
set_option maxRecDepth 100000
set_option maxHeartbeats 2000000
/-! DIe: an error of an own class over ValueError, whose __init__ says super().__init__(x) and self.f = x, is made. -/
namespace DI
open PySem PySem.Spec PyProof.Rows L2 PySem.W PySem.Calls
/-- no class of other people is about -/
def StatAt (h : Heap) : Prop := ∃ (o : Obj) (es : Array DictEntry) (n : Nat), h.get? cStatics = some o ∧ o.data = .dict es n ∧ PySem.W.nsIn [(cStatics, o)] cStatics "thirdparty.any" = some none
theorem StatAt.keeps {h h' : Heap} (s : StatAt h) (k : ∀ b o, h.get? b = some o → h'.get? b = some o) : StatAt h' := by
  obtain ⟨o, es, n, e, d, q⟩ := s
  exact ⟨o, es, n, k _ _ e, d, q⟩
theorem StatAt.looks {h : Heap} (s : StatAt h) {M : Model} {C : Addr} : PySem.W.Looks M h (opaqueClassAbove (.ref C)) none := by
  obtain ⟨o, es, n, e, d, q⟩ := s
  have X : PySem.W.Frag.In [(cStatics, o)] h := fun b u z => by
    by_cases hb : b = cStatics
    · subst hb
      have z : some o = some u := by simpa [List.lookup] using z
      cases z
      exact e
    · have hb' : (b == cStatics) = false := by simpa using hb
      simp [List.lookup, hb'] at z
  exact PySem.W.looks_opaque X q
/-- the body of its __init__ -/
def supB (se pa fx : Str) (p0 p1 p2 p3 p4 p5 p6 p7 p8 p9 : Pos) : List Stmt :=
  [.Expr (.Call (.Attribute (.Call (.Name "super" p0) [] [] p1) "__init__" p2) [.Name pa p3] [] p4) p5, .Assign [.Attribute (.Name se p6) fx p7] (.Name pa p8) p9]
/-- what is known of the class at C and its __init__ at fI -/
structure SupC (prog : Program) (K : PySem.W.Frag) (mg : Str → Option Value) (C fI cc cda : Addr) (fx : Str) : Prop where
  oex : OexC K C
  iC : PySem.W.findIn K (.ref C) "__init__" = some (some (.ref fI))
  tI : PySem.W.typeIn K (.ref fI) = some (.type "function")
  ex : ∃ (se pa : Str) (p0 p1 p2 p3 p4 p5 p6 p7 p8 p9 : Pos) (qual : Str) (params : Arguments) (scope : Scope) (dV kV doc pm ct oc ccl cl : Value) (an od cdd cld : Option Addr) (osl ccs csl : Array (Option Value)) (vs : Array Value) (file : Str) (tf : Tok) (ar : Arg) (cd : ClassData),
    K.lookup fI = some ⟨oc, od, .func (ksFn "__init__" qual params (supB se pa fx p0 p1 p2 p3 p4 p5 p6 p7 p8 p9) scope dV kV doc pm an (.ref cda) ct cc), osl⟩ ∧ PySem.W.codeIn K (.ref cda) qual = true ∧
    (∀ (s : Shared) (u v : Value), BindsTo s (ksFn "__init__" qual params (supB se pa fx p0 p1 p2 p3 p4 p5 p6 p7 p8 p9) scope dV kV doc pm an (.ref cda) ct cc) ⟨[u, v], []⟩ [(se, u), (pa, v)]) ∧
    (params.posonlyargs ++ params.args).head? = some ar ∧ ar.arg = se ∧ se ≠ pa ∧ scope.names.lookup se = some .local ∧ scope.names.lookup pa = some .local ∧ scope.names.lookup ("super" : Str) = some .globalImplicit ∧ scope.names.lookup ("__class__" : Str) = some .free ∧
    (∀ x ∈ scope.names, x.2 ≠ .cell) ∧ scope.kind = .function ∧ scope.isCoroutine = false ∧ scope.isGenerator = false ∧ (se == ("__debug__" : Str)) = false ∧ (pa == ("__debug__" : Str)) = false ∧
    K.lookup cda = some ⟨ccl, cdd, .fields vs, ccs⟩ ∧ vs[2]? = some (.str file tf) ∧ ((prog.main.file : Str) == file) = true ∧ K.lookup cc = some ⟨cl, cld, .cell (some (.ref C)), csl⟩ ∧ PySem.W.clsIn K C = some cd ∧
    ∀ env : PySem.Env, ∃ pl : Sem Bool, eval (.Call (.Attribute (.Call (.Name "super" p0) [] [] p1) "__init__" p2) [.Name pa p3] [] p4) env = (do
      let ov ← attributeBase (.Call (.Name "super" p0) [] [] p1) "__init__" env (eval (.Call (.Name "super" p0) [] [] p1) env)
      standAt p2.atName
      let (f, first) ← holding [ov] (getMethod ov "__init__" pl)
      callWith p4 f first (backTo p4 (starEach [.Name pa p3] env)) [])
  self : PySem.W.mroIn K C (.ref C) = some true
  sup : ks_superIn K C C "__init__" = some (some (.builtin "ValueError.__init__"))
  ve : PySem.W.subIn K (.ref C) (.type "ValueError") = some true
  top : (prog.main.scope.names.lookup ("super" : Str)).isSome = false
  nos : mg "super" = none
  nof : PySem.W.findIn K (.ref C) fx = some none
  ini : PySem.W.excInitIn K C [.type "ValueError", .type "Exception", .type "BaseException", .type "object"] "ValueError.__new__" = true
theorem sup_init {prog : Program} {w : World} {A : Around} {K : PySem.W.Frag} {mg mb : Str → Option Value} {C fI cc cda x t0 : Addr} {fx : Str} {v : Value} {hp : Heap} {s : Shared} {R : Result → Shared → Prop} (T : SupC prog K mg C fI cc cda fx) (X₀ : K.In hp)
    (hg : hp.Ns mainGlobals mg) (hb : hp.Ns builtinsNs mb) (hbb : ∀ x : Str, x ≠ "__name__" → mb x = bootBuiltins x) (hlim : hp.NoLimit) (hst : StatAt hp) (hroom : A.depth < recursionLimit)
    (hk : ∀ b o, hp.get? b = some o → s.heap.get? b = some o) (hx : s.heap.get? x = some (PySem.HandSPX.excO C t0)) (hxn : hp.objs.size ≤ x)
    (hR : ∀ h' tk dx t1, (∀ b o, hp.get? b = some o → h'.get? b = some o) → hp.objs.size ≤ dx → dx ≠ x → h'.get? x = some { cls := .ref C, dict := some dx, data := .fields #[.ref t1, .none, .none, .none, .bool false, .none] } →
      h'.Ns1 dx (fun y => if y = fx then some v else none) → R (.ok (.ret .none)) { s with heap := h', toks := tk }) :
    codeAny (model prog w) A (.call (.ref fI) ⟨[.ref x, v], []⟩) R s := by
  obtain ⟨se, pa, p0, p1, p2, p3, p4, p5, p6, p7, p8, p9, qual, params, scope, dV, kV, doc, pm, ct, oc, ccl, cl, an, od, cdd, cld, osl, ccs, csl, vs, file, tf, ar, cd, lk, hcd, hbd, har, hars, hne, l1, l2, l3, l4, hcell, kd, co, gn, d1, d2, lcd, hvs, hfile, lcc, hcl, hev⟩ := T.ex
  obtain ⟨nm, q, N, bs, bm, sn, sub, ab, col, dd, k0, k1, k2, k3, k5, hC, hbm⟩ := T.oex.cls
  have X : K.In s.heap := X₀.keeps hk
  refine ks_codeAny_call_defAt hroom (X _ _ lk) rfl (hlim.keeps hk) (codeRec_of X hcd) rfl (hbd s (.ref x) v) hcell (fun y hy => ?_) (fun h₁ hns hk₁ => ?_) co gn kd
  · rcases List.mem_cons.mp hy with rfl | hy
    · exact l1
    · rw [List.mem_singleton.mp hy]; exact l2
  subst hars
  have hcl2 : PySem.W.clsIn K C = some { name := nm, bases := bs, mro := .ref C :: bm, ns := N, qualname := q, hasDict := true, slotNames := sn, subclasses := sub, abstract := ab, collection := col, hasDel := false } := by unfold PySem.W.clsIn; rw [hC] <;> rfl
  have hsz : hp.objs.size ≤ s.heap.objs.size := Nat.le_of_lt (Nat.lt_of_le_of_lt hxn (Heap.lt_size hx))
  have F1 : PyProof.Rows.Fr hp s.heap.objs.size h₁ (fun y => ([(ar.arg, Value.ref x), (pa, v)].reverse).lookup y) := ⟨hns, fun b o e => hk₁ _ _ (hk b o e), hsz⟩
  have m1 : (([(ar.arg, Value.ref x), (pa, v)].reverse).lookup ar.arg) = some (.ref x) := by
    show List.lookup ar.arg [(pa, v), (ar.arg, Value.ref x)] = _
    have : (ar.arg == pa) = false := by simpa using hne
    simp [List.lookup, this]
  have m2 : (([(ar.arg, Value.ref x), (pa, v)].reverse).lookup pa) = some v := by
    show List.lookup pa [(pa, v), (ar.arg, Value.ref x)] = _
    simp [List.lookup]
  have hxn' : hp.get? x = none := by
    cases e : hp.get? x with
    | none => rfl
    | some o => exact absurd (Heap.lt_size e) (Nat.not_lt.mpr hxn)
  have N1 : News hp s.heap.objs.size h₁ [(x, PySem.HandSPX.excO C t0)] := fun p hp' => by
    rw [List.mem_singleton.mp hp']
    exact ⟨hk₁ _ _ hx, Nat.ne_of_lt (Heap.lt_size hx), hxn'⟩
  obtain ⟨pl, hev⟩ := hev (callEnv (ksFn "__init__" qual params (supB ar.arg pa fx p0 p1 p2 p3 p4 p5 p6 p7 p8 p9) scope dV kV doc pm an (.ref cda) ct cc) s.heap.objs.size fI)
  have X1 : K.In h₁ := X₀.keeps F1.keep
  refine ks_wpAt_execs_cons (ks_wpAt_Expr_any (ks_wpAt_MethodCall (ks_wpAt_super_base (ar := ar) l3 l4 rfl rfl (X1 _ _ lk) rfl har rfl (X1 _ _ lcd) rfl hvs hfile T.top ?_) hev) (by simp [interactive, callEnv, newEnv, kd]))
  refine ks_loadName_global kd l3 (loadGlobal_builtin (hg.keeps F1.keep) T.nos (hb.keeps F1.keep) ((hbb _ (by decide +kernel)).trans (by decide +kernel : bootBuiltins "super" = some (.type "super"))) ⟨rfl, ?_⟩)
  refine wpAny_loadName_free kd l4 rfl ⟨_, X1 _ _ lcc, rfl⟩ ?_
  refine wpAny_loadName_local kd l1 F1.ns m1 ?_
  refine ks_wpAny_isType_cls (X1 _ _ hC) rfl ⟨rfl, ?_⟩
  refine ks_wpAny_call_super (X1 _ _ hC) rfl (N1 (x, PySem.HandSPX.excO C t0) (List.mem_singleton.mpr rfl)).1 rfl (fun c e => by cases e) (looks_mroIn X1 T.self) (fun h₂ e₂ k₂ => ?_)
  obtain ⟨F2, N2, lt2⟩ := ks_newsPush (s := { s with heap := h₁ }) F1 N1 rfl e₂ k₂
  have I2 : InstAt h₂ x (PySem.HandSPX.excO C t0) C none := ⟨(N2 (x, PySem.HandSPX.excO C t0) (List.mem_cons_of_mem _ (List.mem_singleton.mpr rfl))).1, rfl, rfl, trivial⟩
  have X2 : K.In h₂ := X₀.keeps F2.keep
  have hsup : alongIn K "__init__" ((((Value.ref C :: bm)).dropWhile (· != .ref C)).drop 1) = some (some (.builtin "ValueError.__init__")) := by
    have := T.sup
    unfold ks_superIn at this
    rw [hcl2] at this
    exact this
  refine kxs_getMethod kxs_ValueError (N2 (({ s with heap := h₁ } : Shared).heap.objs.size, ks_superObj C x C) (List.mem_cons_self ..)).1 ((hst.keeps F2.keep).looks) (l₀ := .ref C :: bm) (fun A Q E s k q => wpAny_bind ((looks_clsIn X2 hcl2) A _ E s k (wpAny_pure q))) rfl X2 hsup (I2.type.andThen (looks_subIn X2 T.ve)) (ks_ne X2 I2 hcl2) rfl ?_
  obtain ⟨F3, N3, lt3⟩ := ks_newsPush (s := { s with heap := h₂ }) (o := kxs_mw "ValueError.__init__" x) F2 N2 rfl (Heap.get?_push_at rfl rfl) (fun b o e => Heap.get?_push_of_some _ e)
  refine kxs_callWith1 (i := "ValueError.__init__") (x := x) N3 (List.mem_cons_self ..) ?_ rfl rfl
  show wpAny _ _ (spliced ((false, eval (.Name pa p3) _) :: backTo p4 (starEach [] _))) _ _ _
  refine spliced_cons (ldc kd l2 F3.ns m2 ?_ d2)
  refine spliced_nil ⟨kxs_at N3 (List.mem_cons_self ..), ?_⟩
  refine kxs_call (t := t0) (dv := none) (c2 := .none) F3 X₀ N3 PySem.F.excBase_ValueError T.ini (List.mem_cons_self ..) (.tail ?_ (.tail ?_ (.head fun p hp' => nomatch hp'))) (by rw [sizeLine_eq]; simp) fun t1 h₄ F4 N4 _ => ?_
  · exact Nat.ne_of_gt (lt3 (x, PySem.HandSPX.excO C t0) (List.mem_cons_of_mem _ (List.mem_singleton.mpr rfl)))
  · exact Nat.ne_of_gt (lt2 (x, PySem.HandSPX.excO C t0) (List.mem_singleton.mpr rfl))
  have X4 : K.In h₄ := X₀.keeps F4.keep
  have hx4 : h₄.get? x = some (excObj C t1 none .none) := (N4 (x, excObj C t1 none .none) (by simp)).1
  have I4 : InstAt h₄ x (excObj C t1 none .none) C none := ⟨hx4, rfl, rfl, trivial⟩
  refine ks_wpAt_execs_cons (ks_wpAt_Assign_Attr (wpAt_of_wpAny (ldc kd l2 F4.ns m2 (ldc kd l1 F4.ns m1 ?_ d1) d2)))
  refine set_plain X4 I4 T.oex.sa ?_
  refine PySem.HandSPX.exc_osa X4 hx4 hcl2 (show PySem.HandSPX.refsVE (.ref C :: bm) = true from hbm) rfl T.nof (fun h' tk' dx k dn dne hx' hn => ?_)
  refine wpAt_of_wpAny (wpAny_pure ?_)
  exact hR h' tk' dx t1 (fun b o e => k b o (fun z => by rw [z, hxn'] at e; cases e) (F4.keep b o e)) (Nat.le_trans (Nat.le_of_lt (Nat.lt_of_le_of_lt hxn (Heap.lt_size hx4))) dn) dne hx' hn
/-- N(x) -/
theorem mk_at {T : Tb} {X : Cx} {x : Str} {fI cc cda : Addr} (Z : SupC X.prog X.K X.mg T.cn fI cc cda T.fx) (hg : Gl X x) (hm : X.mg x = some (.ref T.cn)) (hst : StatAt X.base) (hr : Room 1 X.A) (hdb : (x == ("__debug__" : Str)) = false) : MkAt T X x := by
  intro e te p pos he hs pins s σ H Q I h
  obtain ⟨nm, q, N, bs, bm, sn, sub, ab, col, dd, k0, k1, k2, k3, k5, hC, hbm⟩ := Z.oex.cls
  refine wpAny_Call_Name_kw (ld_glob I hg hm ?_ hdb)
  refine PySem.W.callWith_K (h₀ := X.base) I.ok.mod.kin Z.oex.kC (thn ((pa_cons he pa_nil (star_of hs)).run pos pins s σ H (fun vs H1 => match vs with
    | [v] => ∀ dx, H1 dx = none → Q (.ref T.cn) (some dx) (upd H1 dx (.xd [(T.fx, v)]))
    | _ => False) I h) fun us s1 ⟨vs, H1, I1, r1, q1⟩ => ⟨I1.kIn, ?_⟩) (star_of hs) rfl
  show wpAny _ _ (call (.ref T.cn) us) _ _ _
  obtain ⟨v, rfl⟩ : ∃ v, vs = [v] := by
    match vs, q1 with
    | [v], _ => exact ⟨v, rfl⟩
    | [], q => exact (show False from q).elim
    | _ :: _ :: _, q => exact (show False from q).elim
  obtain ⟨u, rfl, ru⟩ := vals1 r1
  have q1 : ∀ dx, H1 dx = none → Q (.ref T.cn) (some dx) (upd H1 dx (.xd [(T.fx, v)])) := q1
  obtain ⟨hp, g, dr, tk, os⟩ := s1
  obtain ⟨kin, gl, ⟨mb, hbn, hbb⟩, nl⟩ := I1.mod
  have bk : ∀ b o, X.base.get? b = some o → hp.get? b = some o := I1.bk
  have hget : ((hp.push (PySem.W.kdv_tup [u])).push (PySem.HandSPX.excO T.cn hp.objs.size)).get? (hp.objs.size + 1) = some (PySem.HandSPX.excO T.cn hp.objs.size) := by heap_get
  have kk : ∀ b o, hp.get? b = some o → ((hp.push (PySem.W.kdv_tup [u])).push (PySem.HandSPX.excO T.cn hp.objs.size)).get? b = some o := fun b o e => Heap.get?_push_of_some _ (Heap.get?_push_of_some _ e)
  refine wpAny_call (PySem.HandSPX.call_own PySem.F.excBase_ValueError (fun Y => PySem.HandSPX.refsVE_contains Y bm hbm) (I1.kIn _ _ hC) (PySem.W.looks_findIn I1.kIn Z.iC) (fun self => PySem.W.bind_fn I1.kIn self Z.tI) (by rw [sizeLine_eq]; simp)
    (sup_init (hp := hp) (t0 := hp.objs.size) Z I1.kIn (gl.keeps bk) (hbn.keeps bk) hbb (nl.keeps bk) (hst.keeps bk) (hr.make T.cn [u] []).depth kk hget (Nat.le_succ _) fun h' tk' dx t1 k dn dne hx' hn => ?_))
  refine ⟨rfl, ?_⟩
  have hdx : H1 dx = none := I1.hok.fresh dn
  have ha : H1 (hp.objs.size + 1) = none := I1.hok.fresh (Nat.le_succ _)
  have gk : ∀ b o, b ≠ hp.objs.size + 1 → h'.get? b = some o → (PySem.W.hideAll h' [hp.objs.size + 1]).get? b = some o := fun b o hb e => PySem.W.hideAll_get _ e (by simpa using hb)
  have J := I1.laid (t' := tk') (a := dx) (o := .xd [(T.fx, v)]) (h' := PySem.W.hideAll h' [hp.objs.size + 1]) (fun b o e => gk b o (fun z => by
      have := Heap.lt_size e
      rw [z] at this
      exact absurd this (Nat.not_lt.mpr (Nat.le_succ _))) (k b o e)) dn ⟨_, hn.at fun o y => gk dx o dne y, relO_put (fs := []) ru fun g => True.intro⟩
  refine ⟨hp.objs.size + 1, _, _, ⟨PySem.W.hideAll h' [hp.objs.size + 1], g, dr, tk', os⟩, _, .ref T.cn, some dx, rfl, J, fun b o e => PySem.W.of_hideAll _ e, PySem.W.hideAll_none _ (by simp), hx', ⟨rfl, rfl⟩, rfl, rfl, ?_, rfl, I1.bare, raises_own Z.oex.exC Z.oex.tyC, q1 dx hdx⟩
  rw [upd_ne (Ne.symm dne)]
  exact ha
end DI

set_option Elab.async false
set_option linter.all false
set_option autoImplicit false
set_option maxRecDepth 100000
set_option maxHeartbeats 2000000
/-! DIt: the end of a law with tables of code objects. -/
namespace DI
open PySem PySem.Spec PyProof.Rows L2
theorem callLawT {P : Program} {w : World} {K : PySem.W.Frag} {mg mb : Str → Option Value} {k : Nat} {fa a : Addr} {cs : List (Addr × Addr)} {fd : FuncData} {x : Str} {sp : Sp} {s₁ : Shared} {vs : List Value} {ns : List Int}
    (KX : K.In s₁.heap) (hns : s₁.heap.Ns mainGlobals mg) (hbn : s₁.heap.Ns builtinsNs mb) (hbb : ∀ x : Str, x ≠ "__name__" → mb x = bootBuiltins x) (hlim : s₁.heap.NoLimit) (hgn : s₁.gens = #[])
    (hsys : ∃ o, s₁.heap.get? sysModules = some o ∧ o.cls = .type "dict") (hst : StatAt s₁.heap)
    (hT : ∀ p ∈ cs, s₁.heap.get? p.2 = some { cls := .none, data := .fields #[] }) (nT : ∀ p ∈ cs, K.lookup p.2 = none) (C : ∀ p ∈ cs, PySem.W.CodeHd s₁.heap p.1 p.2)
    (hbm : ∃ (bm : Addr) (ob : Obj), mg "__builtins__" = some (.ref bm) ∧ bm ≠ builtinsNs ∧ s₁.heap.get? bm = some ob ∧ ob.cls = .type "module" ∧ ob.dict = some builtinsNs ∧ ob.data = .plain)
    (ha : s₁.heap.get? a = some { cls := .type "list", data := .seq vs.toArray }) (hi : IntsAre vs ns) (hl : ns.length ≤ sizeLine) (hr : Room k callerA)
    (F : ∀ base : Heap, K.In base → base.Ns mainGlobals mg → (∃ o, base.get? sysModules = some o) → StatAt base → (∀ p ∈ cs, LamX.TabB base mg p.1 p.2) → FnG P w K mg base true k fa fd [x] sp) (hbind : ∀ (s : Shared) (u : Value), BindsTo s fd ⟨[u], []⟩ [(x, u)])
    (hsp : ∀ H : Hp, (∀ p ∈ cs, H p.2 = some (.tbl #[])) → SqL K H a (ns.map V.int) → sp [.ref a] H (fun v _ => v = .bl true) fun _ _ _ => False) :
    codeAny (model P w) callerA (.call (.ref fa) ⟨[.ref a], []⟩) (fun r s' => r = .ok (.ret (.bool true)) ∧ OldK s₁.heap s'.heap ∧ s'.os = s₁.os ∧ AllBare s'.gens) s₁ := by
  have rv := vals_ints hi
  have lenV := hi.length
  obtain ⟨osy, hsy, hsyc⟩ := hsys
  -- the heap of the entry: the tables, and the script unless it is written
  let tb : Addr → Prop := fun b => ∃ p ∈ cs, p.2 = b
  have atT : ∀ b, tb b → s₁.heap.get? b = some { cls := .none, data := .fields #[] } := fun b ⟨p, hp, e⟩ => e ▸ hT p hp
  have aT : ¬ tb a := fun z => by
    have q := atT a z
    rw [ha] at q
    cases q
  let fz : HO := .frz ⟨.type "list", none, .seq vs.toArray, #[]⟩ (.lst (ns.map V.int))
  let H : Hp := fun b => open Classical in if tb b then some (.tbl #[]) else if b = a ∧ K.lookup a = none then some fz else none
  have HT : ∀ b, tb b → H b = some (.tbl #[]) := fun b h => if_pos h
  have HA : K.lookup a = none → H a = some fz := fun h => (if_neg aT).trans (if_pos ⟨rfl, h⟩)
  have HN : ∀ b, ¬ tb b → ¬ (b = a ∧ K.lookup a = none) → H b = none := fun b h1 h2 => (if_neg h1).trans (if_neg h2)
  have HC : ∀ b u, H b = some u → (tb b ∧ u = .tbl #[]) ∨ (b = a ∧ K.lookup a = none ∧ u = fz) := fun b u e => by
    by_cases h1 : tb b
    · rw [HT b h1] at e; cases e; exact .inl ⟨h1, rfl⟩
    · by_cases h2 : b = a ∧ K.lookup a = none
      · obtain ⟨rfl, h3⟩ := h2
        rw [HA h3] at e; cases e; exact .inr ⟨rfl, h3, rfl⟩
      · rw [HN b h1 h2] at e; cases e
  have hok : HOk P w H s₁.heap := fun b u e => by
    rcases HC b u e with ⟨h1, rfl⟩ | ⟨rfl, _, rfl⟩
    · exact atT b h1
    · exact ⟨ha, by rw [List.length_map]; exact hl, vs, _, rv, ha⟩
  have hS : SqL K H a (ns.map V.int) := by
    cases hk : K.lookup a with
    | none => exact .inl (.inr ⟨_, HA hk⟩)
    | some o =>
      have e := KX a o hk
      rw [ha] at e
      cases e
      refine .inr ⟨_, vs.toArray, _, hk, rfl, rfl, rfl, ?_, by simpa using rv⟩
      rw [List.size_toArray, lenV]
      exact hl
  have off : ∀ {b : Addr} {o : Obj}, s₁.heap.get? b = some o → (∀ us n, o.data ≠ .seq us n) → o.data ≠ .fields #[] → H b = none := fun {b o} e q1 q2 => by
    cases q : H b with
    | none => rfl
    | some u =>
      rcases HC b u q with ⟨h1, _⟩ | ⟨rfl, _, _⟩
      · rw [atT b h1] at e; cases e; exact absurd rfl q2
      · rw [ha] at e; cases e; exact absurd rfl (q1 _ _)
  have lift : ∀ {b : Addr} {m : Str → Option Value}, s₁.heap.Ns b m → (hidT s₁.heap H).Ns b m := fun {b m} h => by
    obtain ⟨o, es, ep, e, d, q⟩ := h
    exact ⟨o, es, ep, hidT_get e (off e (fun us n z => by rw [d] at z; cases z) fun z => by rw [d] at z; cases z), d, q⟩
  have kb : K.In (hidT s₁.heap H) := fun b o e => hidT_get (KX b o e) (by
    cases q : H b with
    | none => rfl
    | some u =>
      rcases HC b u q with ⟨⟨p, hp, rfl⟩, _⟩ | ⟨rfl, h2, _⟩
      · rw [nT p hp] at e; cases e
      · rw [h2] at e; cases e)
  obtain ⟨mc, l1, l2⟩ := hlim
  have md : Mod K mg (hidT s₁.heap H) := ⟨kb, lift hns, ⟨mb, lift hbn, hbb⟩, ⟨mc, lift l1, l2⟩⟩
  have e0 : Env0 P w K mg (hidT s₁.heap H) callerA [] s₁ H := ⟨rfl, md, fun b o e => of_hidT e, Nat.le_of_eq (hidT_size _ _), trivial, fun b hb => absurd hb List.not_mem_nil, hok, .of_eq hgn⟩
  have hsd : ∃ o, (hidT s₁.heap H).get? sysModules = some o := by
    refine ⟨osy, hidT_get hsy ?_⟩
    cases q : H sysModules with
    | none => rfl
    | some u =>
      rcases HC _ u q with ⟨h1, _⟩ | ⟨e, _, _⟩
      · have z := atT _ h1
        rw [hsy] at z
        cases z
        cases hsyc
      · rw [e, ha] at hsy
        cases hsy
        have q : Value.type "list" = Value.type "dict" := hsyc
        injection q with q
        exact absurd q (by decide)
  have TB : ∀ p ∈ cs, LamX.TabB (hidT s₁.heap H) mg p.1 p.2 := fun p hp => by
    refine ⟨?_, ?_, fun z => ?_⟩
    · obtain ⟨o, us, file, tf, flags, tg, inF, text, tt, e1, r1, r2, r3, r4, r5, r6, r7, r8, hne⟩ := C p hp
      exact ⟨o, us, file, tf, flags, tg, inF, text, tt, hidT_get e1 (off e1 (fun us n z => by rw [r2] at z; cases z) fun z => by rw [r2] at z; cases z; simp at r3), r1, r2, r3, r4, r5, r6, r7, r8, hne⟩
    · obtain ⟨bm, ob, b1, b2, b3, b4, b5, b6⟩ := hbm
      refine ⟨bm, ob, b1, b2, fun q => ?_, fun q => ?_, hidT_get b3 (off b3 (fun us n z => by rw [b6] at z; cases z) fun z => by rw [b6] at z; cases z), b4, b5, b6⟩
      · obtain ⟨o, es, ep, e, hd, _⟩ := hns
        rw [q, e] at b3
        cases b3
        rw [hd] at b6
        cases b6
      · rw [q, hT p hp] at b3
        cases b3
        cases b6
    · obtain ⟨o, es, ep, e, hd, _⟩ := hns
      rw [z, hT p hp] at e
      cases e
      cases hd
  refine codeAny_mono ((F _ kb (lift hns) hsd (by
    obtain ⟨o, es, n, e, d, q⟩ := hst
    exact ⟨o, es, n, hidT_get e (off e (fun us n z => by rw [d] at z; cases z) fun z => by rw [d] at z; cases z), d, q⟩) TB).run callerA [] s₁ H _ [.ref a] [.ref a] _ _ (fun _ => rfl) hr e0 (hbind s₁ (.ref a)) (.cons rfl .nil) (hsp H (fun p hp => HT _ ⟨p, hp, rfl⟩) hS)) ?_
  intro r s2 z
  rcases r with e | fl
  · exact z.elim
  cases fl with
  | next => exact z.elim
  | brk => exact z.elim
  | cont => exact z.elim
  | ret u =>
    obtain ⟨v, H2, os, bare, un, hok2, r2, q⟩ := z
    have q : v = .bl true := q
    subst q
    have r2 : u = Value.bool true := r2
    subst r2
    have key : ∀ b o, ¬ tb b → s₁.heap.get? b = some o → s2.heap.get? b = some o := fun b o nb e => by
      cases q : H b with
      | none => exact un.keep b o e q (fun z => absurd z List.not_mem_nil) List.not_mem_nil
      | some hu =>
        rcases HC b hu q with ⟨h1, _⟩ | ⟨rfl, _, rfl⟩
        · exact absurd h1 nb
        · have e1 := (hok b _ q).1
          have e2 := (hok2 b _ (un.frzs b _ _ q)).1
          rw [e] at e1
          cases e1
          exact e2
    have grown : ∀ p ∈ cs, ∃ more : Array Value, s2.heap.get? p.2 = some { cls := .none, data := .fields more } := fun p hp => by
      obtain ⟨more, z⟩ := un.tbls p.2 #[] (HT _ ⟨p, hp, rfl⟩)
      exact ⟨_, hok2 p.2 _ z⟩
    refine ⟨rfl, ⟨fun b o e => ?_, fun b o e => ?_⟩, os, bare⟩
    · by_cases hb : tb b
      · obtain ⟨p, hp, rfl⟩ := hb
        obtain ⟨more, hm⟩ := grown p hp
        rw [hT p hp] at e
        cases e
        exact .inr (.inl ⟨((C p hp).tab (hT p hp)).isCodeTable, rfl, #[], more, rfl, by rw [Array.empty_append]; exact hm⟩)
      · exact .inl (key b o hb e)
    · by_cases hb : tb b
      · obtain ⟨p, hp, rfl⟩ := hb
        obtain ⟨more, hm⟩ := grown p hp
        exact ⟨_, hm⟩
      · exact ⟨o, key b o hb e⟩
end DI

set_option Elab.async false
set_option linter.all false
set_option autoImplicit false
set_option maxRecDepth 100000
set_option maxHeartbeats 2000000
/-! DIs: what the head's heap says of a class of errors, by Bools. -/
namespace DI
open PySem PySem.Spec PyProof.Rows L2 PySem.W
abbrev IniW : Type := Option (Str × Str × Arguments × FuncBody × Scope × Addr × List Str × Addr)
def iniW (K : PySem.W.Frag) (x : Str) : IniW := match K.lookup (He.fAd K (x, some "__init__")) with
  | some ⟨_, _, .func fd, _⟩ => some (fd.name, fd.qualname, fd.params, fd.body, fd.scope, fd.globals, fd.closure.map (·.1), fd.builtins)
  | _ => none
def oexB (K : PySem.W.Frag) (C : Addr) : Bool := match K.lookup C with
  | some ⟨.type "type", _, .cls cd, sl⟩ => (match cd.mro, sl.toList with
    | .ref C' :: bm, [_, _, _, _, some (.builtin n), _] => C' == C && n == "ValueError.__new__" && !cd.hasDel && PySem.HandSPX.refsVE bm && cd.hasDict
    | _, _ => false)
  | _ => false
theorem oexB_ok {K : PySem.W.Frag} {C : Addr} (q : oexB K C = true) : ∃ nm q N bs bm sn sub ab col dd k0 k1 k2 k3 k5, K.lookup C = some (excClassObj nm q C N bs bm true sn sub ab col dd k0 k1 k2 k3 k5 "ValueError.__new__") ∧ PySem.HandSPX.refsVE bm = true := by
  unfold oexB at q
  split at q
  · rename_i dd cd sl ho
    split at q
    · rename_i C' bm k0 k1 k2 k3 n k5 hm hs
      simp only [Bool.and_eq_true, beq_iff_eq, Bool.not_eq_true'] at q
      obtain ⟨⟨⟨⟨rfl, rfl⟩, hdel⟩, ht⟩, hd⟩ := q
      obtain ⟨nm, bs, mro, ns, qn, hdc, sn, sub, ab, col, del⟩ := cd
      dsimp only at hm hdel hd
      subst hm hdel hd
      have hsl : sl = #[k0, k1, k2, k3, some (.builtin "ValueError.__new__"), k5] := by
        rw [← Array.toArray_toList (xs := sl), hs]
      subst hsl
      exact ⟨nm, qn, ns, bs, bm, sn, sub, ab, col, dd, k0, k1, k2, k3, k5, ho, ht⟩
    · cases q
  · cases q
def isNoneV : Value → Bool
  | .none => true
  | _ => false
def initB (prog : Program) (K : PySem.W.Frag) (C fI : Addr) : Bool := match K.lookup fI with
  | some ⟨_, _, .func fd, _⟩ => (match fd.code, fd.closure with
    | .ref cda, [(_, cc)] => isNoneV fd.defaults && codeIn K fd.code fd.qualname && (match K.lookup cda with
        | some ⟨_, _, .fields vs, _⟩ => (match (vs[2]? : Option Value) with
          | some (.str file _) => (prog.main.file : Str) == file
          | _ => false)
        | _ => false) && (match K.lookup cc with
        | some ⟨_, _, .cell (some (.ref D)), _⟩ => D == C
        | _ => false) && (clsIn K C).isSome
    | _, _ => false)
  | _ => false
def supOk (prog : Program) (x fx : Str) (K : PySem.W.Frag) : Bool :=
  oexB K (He.ga K x) && He.eqO (findIn K (.ref (He.ga K x)) "__setattr__") (some (some (.builtin "object.__setattr__"))) && decide (subIn K (.ref (He.ga K x)) (.type "BaseException") = some true) && decide (typeIn K (.ref (He.ga K x)) = some (.type "type")) && keepIn K (.ref (He.ga K x)) &&
  He.eqO (findIn K (.ref (He.ga K x)) "__init__") (some (some (.ref (He.ma K (He.ga K x) "__init__")))) && decide (typeIn K (.ref (He.ma K (He.ga K x) "__init__")) = some (.type "function")) && initB prog K (He.ga K x) (He.ma K (He.ga K x) "__init__") &&
  decide (mroIn K (He.ga K x) (.ref (He.ga K x)) = some true) && He.eqO (ks_superIn K (He.ga K x) (He.ga K x) "__init__") (some (some (.builtin "ValueError.__init__"))) && decide (subIn K (.ref (He.ga K x)) (.type "ValueError") = some true) &&
  He.eqO (findIn K (.ref (He.ga K x)) fx) (some none) && excInitIn K (He.ga K x) [.type "ValueError", .type "Exception", .type "BaseException", .type "object"] "ValueError.__new__" && xfB K (He.ga K x)
/-- what the text says of the __init__ -/
structure IniS (se pa fx : Str) (p0 p1 p2 p3 p4 p5 p6 p7 p8 p9 : Pos) (params : Arguments) (scope : Scope) : Prop where
  bind : ∀ (qual : Str) (cl : List (Str × Addr)) (kV doc pm : Value) (an : Option Addr) (cdv ct u v : Value), bindArgs (fnX "__init__" qual params (supB se pa fx p0 p1 p2 p3 p4 p5 p6 p7 p8 p9) scope cl .none kV doc pm an cdv ct) ⟨[u, v], []⟩ = pure [(se, u), (pa, v)]
  ar : ∃ ar, (params.posonlyargs ++ params.args).head? = some ar ∧ ar.arg = se
  ne : se ≠ pa
  l1 : scope.names.lookup se = some .local
  l2 : scope.names.lookup pa = some .local
  l3 : scope.names.lookup ("super" : Str) = some .globalImplicit
  l4 : scope.names.lookup ("__class__" : Str) = some .free
  nc : ∀ x ∈ scope.names, x.2 ≠ .cell
  kd : scope.kind = .function
  co : scope.isCoroutine = false
  gn : scope.isGenerator = false
  d1 : (se == ("__debug__" : Str)) = false
  d2 : (pa == ("__debug__" : Str)) = false
  ev : ∀ env : PySem.Env, ∃ pl : Sem Bool, eval (.Call (.Attribute (.Call (.Name "super" p0) [] [] p1) "__init__" p2) [.Name pa p3] [] p4) env = (do
      let ov ← attributeBase (.Call (.Name "super" p0) [] [] p1) "__init__" env (eval (.Call (.Name "super" p0) [] [] p1) env)
      standAt p2.atName
      let (f, first) ← holding [ov] (getMethod ov "__init__" pl)
      callWith p4 f first (backTo p4 (starEach [.Name pa p3] env)) [])
theorem supC_of {prog : Program} {K : PySem.W.Frag} {mg : Str → Option Value} {x fx : Str} {se pa : Str} {p0 p1 p2 p3 p4 p5 p6 p7 p8 p9 : Pos} {qual : Str} {params : Arguments} {scope : Scope} (h : supOk prog x fx K = true)
    (e : iniW K x = some (("__init__" : Str), qual, params, FuncBody.stmts (supB se pa fx p0 p1 p2 p3 p4 p5 p6 p7 p8 p9), scope, mainGlobals, [("__class__" : Str)], builtinsNs)) (I : IniS se pa fx p0 p1 p2 p3 p4 p5 p6 p7 p8 p9 params scope)
    (hs : mg "super" = none) (top : (prog.main.scope.names.lookup ("super" : Str)).isSome = false) : ∃ cc cda, SupC prog K mg (He.ga K x) (He.ma K (He.ga K x) "__init__") cc cda fx := by
  unfold supOk at h
  simp only [Bool.and_eq_true, decide_eq_true_eq] at h
  obtain ⟨⟨⟨⟨⟨⟨⟨⟨⟨⟨⟨⟨⟨h1, h2⟩, h3⟩, h4⟩, h5⟩, h6⟩, h7⟩, h8⟩, h9⟩, h10⟩, h11⟩, h13⟩, h14⟩, h15⟩ := h
  have lkx : He.fAd K (x, some "__init__") = He.ma K (He.ga K x) "__init__" := rfl
  unfold initB at h8
  unfold iniW at e
  rw [lkx] at e
  split at h8
  · rename_i oc od fd osl lk
    rw [lk] at e
    simp only [Option.some.injEq, Prod.mk.injEq] at e
    obtain ⟨e1, e2, e3, e4, e5, e6, e7, e8⟩ := e
    split at h8
    · rename_i cda n cc hc hcl
      simp only [Bool.and_eq_true] at h8
      obtain ⟨⟨⟨⟨g0, g1⟩, g2⟩, g3⟩, g4⟩ := h8
      obtain ⟨nm0, qn0, pr0, bd0, sc0, gl0, cl0, df0, kw0, doc0, pm0, an0, cd0, ct0, bt0⟩ := fd
      dsimp only at e1 e2 e3 e4 e5 e6 e7 e8 hc hcl g0 g1
      subst e1 e2 e3 e4 e5 e6 e8 hc hcl
      have en : n = ("__class__" : Str) := by
        have e7 : [n] = [("__class__" : Str)] := e7
        injection e7
      subst en
      have ed : df0 = .none := by
        cases df0 <;> first | rfl | cases g0
      subst ed
      obtain ⟨cd, hcd⟩ := Option.isSome_iff_exists.mp g4
      obtain ⟨ar, a1, a2⟩ := I.ar
      split at g2
      · rename_i ccl cdd vs ccs lcd
        split at g2
        · rename_i file tf hvs
          split at g3
          · rename_i cl cld D csl lcc
            have eD : D = He.ga K x := by simpa using g3
            subst eD
            refine ⟨cc, cda, ⟨⟨oexB_ok h1, He.eqO_ok h2, h3, h4, h5⟩, He.eqO_ok h6, h7, ⟨se, pa, p0, p1, p2, p3, p4, p5, p6, p7, p8, p9, _, _, _, .none, kw0, doc0, pm0, ct0, oc, ccl, cl, an0, od, cdd, cld, osl, ccs, csl, vs, file, tf, ar, cd, lk, g1, ?_, a1, a2, I.ne, I.l1, I.l2, I.l3, I.l4, I.nc, I.kd, I.co, I.gn, I.d1, I.d2, lcd, hvs, g2, lcc, hcd, I.ev⟩, h9, He.eqO_ok h10, h11, top, hs, He.eqO_ok h13, h14⟩⟩
            intro s u v
            exact BindsTo.of_eq (I.bind _ _ _ _ _ _ _ _ u v)
          · cases g3
        · cases g2
      · cases g2
    · cases h8
  · cases h8
theorem supOk_xf {prog : Program} {K : PySem.W.Frag} {x fx : Str} (h : supOk prog x fx K = true) : XfC K (He.ga K x) ∧ PySem.W.findIn K (.ref (He.ga K x)) fx = some none := by
  unfold supOk at h
  simp only [Bool.and_eq_true, decide_eq_true_eq] at h
  exact ⟨xfB_ok h.2, He.eqO_ok h.1.1.2⟩
def statB (g : Addr → Option Obj) : Bool := match g cStatics with
  | some o => (match o.data with
    | .dict _ _ => true
    | _ => false) && decide (PySem.W.nsIn [(cStatics, o)] cStatics "thirdparty.any" = some none)
  | none => false
theorem statB_of {h : Heap} (q : statB h.get? = true) : StatAt h := by
  unfold statB at q
  split at q
  · rename_i o e
    simp only [Bool.and_eq_true, decide_eq_true_eq] at q
    obtain ⟨q1, q2⟩ := q
    split at q1
    · rename_i es n d
      exact ⟨o, es, n, e, d, q2⟩
    · cases q1
  · cases q
/-- the head's facts, and the __init__ of the class x -/
def hookI (n : Nat) (fa : List He.Fa) (fn : List He.DefD) (tf : List He.Defn) (ex : PySem.W.Frag → Bool) (x : Str) (iv : IniW) : PySem.W.Hook where
  α := He.AlX × IniW × Bool × Bool
  obs := fun s => (He.obsX n fa fn [] tf ex s.heap.get?, iniW (He.frT s.heap.get? (He.asD s.heap.get? n)) x, isDictAt s.heap.get? sysModules, statB s.heap.get?)
  val := fun w => (He.valX fn [] w, iv, true, true)
  says := fun w h => (∃ K : PySem.W.Frag, K.In h ∧ He.SaysX fa fn [] tf ex w h K ∧ iniW K x = iv) ∧ (∃ o, h.get? sysModules = some o ∧ o.cls = .type "dict") ∧ StatAt h
  of := fun w s e => ⟨⟨_, He.frT_in, He.saysX_of (congrArg Prod.fst e), congrArg (fun z => z.2.1) e⟩, isDictAt_of (congrArg (fun z => z.2.2.1) e), statB_of (congrArg (fun z => z.2.2.2) e)⟩
  keeps := fun w h h' z k => by
    obtain ⟨⟨K, hK, c, q⟩, ⟨o, z2, z3⟩, z4⟩ := z
    exact ⟨⟨K, PySem.W.Frag.In.keeps hK k, ⟨c.t, c.more, c.hd, c.out, fun p hp => k _ _ (c.empty p hp)⟩, q⟩, ⟨o, k _ _ z2, z3⟩, z4.keeps k⟩
/-- from the law's promise to the row -/
theorem walkI {l : PySem.W.OpenLaw} {n k : Nat} {q : Program} {loose : List Str} {XP : (Str → Option Value) → Heap → Prop} {fas : List He.Fa} {fns : List He.DefD} {tf : List He.Defn} {ex : PySem.W.Frag → Bool} {cx : Str} {iv : IniW} {m : Nat} {d : DefRec} {x : Str}
    (hn : l.most = some n) (hn2 : n ≤ sizeLine) (hdf : d.params.defaults = []) (hr : Room k callerA)
    (F : ∀ (w : World) (mg : Str → Option Value) (fa : Addr) (h : Heap) (K : PySem.W.Frag), K.In h → He.SaysX fas fns [] tf ex w h K → iniW K cx = iv → h.Ns mainGlobals mg → mg d.name = some (.ref fa) →
      ∃ (fd : FuncData) (cs : List (Addr × Addr)) (sp : Sp), (∀ p ∈ cs, h.get? p.2 = some { cls := .none, data := .fields #[] }) ∧ (∀ p ∈ cs, K.lookup p.2 = none) ∧ (∀ p ∈ cs, PySem.W.CodeHd h p.1 p.2) ∧ (∀ (s : Shared) (u : Value), BindsTo s fd ⟨[u], []⟩ [(x, u)]) ∧
        (∀ (H : Hp) (a : Addr) (ns : List Int), ns.length ≤ n → (∀ p ∈ cs, H p.2 = some (.tbl #[])) → SqL K H a (ns.map V.int) → sp [.ref a] H (fun v _ => v = .bl true) fun _ _ _ => False) ∧
        ∀ base : Heap, K.In base → base.Ns mainGlobals mg → (∃ o, base.get? sysModules = some o) → StatAt base → (∀ p ∈ cs, LamX.TabB base mg p.1 p.2) → FnG l.prog w K mg base true k fa fd [x] sp) :
    PySem.W.WalkO q loose XP (hookI m fas fns tf ex cx iv).says l.row.toRowW d [] (fun f vs => PySem.call f vs) := by
  refine Att.attach_call hn hdf ?_
  intro w s₀ s₁ mg mb fa o pm cd doc a vs ns G Y ho hd hcd hmg hobj hints hlen hgn
  obtain ⟨⟨K, KX, c, hiv⟩, hsys, hst⟩ := Y
  obtain ⟨fd, cs, sp, h1, h2, h3, hb, hsp, hF⟩ := F w mg fa _ K KX c hiv G.T.g hmg
  exact callLawT KX G.T.g G.T.b G.T.builtins G.T.nolimit hgn hsys hst h1 h2 h3 G.T.bmain hobj hints (Nat.le_trans hlen hn2) hr hF hb fun H hH hS => hsp H a ns hlen hH hS
end DI

set_option Elab.async false
set_option linter.all false
set_option autoImplicit false
set_option maxRecDepth 100000
set_option maxHeartbeats 1000000
/-! K14a: any values of a law: how great, how deep (K62a, with dicts told by where they stand). -/
namespace DI
open PySem PySem.Spec PyProof.Rows L2
mutual
def wt : D → Nat
  | .non => 5
  | .bl _ => 5
  | .int _ => 60
  | .str x => 10 * x.length + 2
  | .lst xs => wtA xs + 3
  | .tup xs => wtA xs + 3
  | .dct kvs => wtK kvs + 3
  | .dci _ kvs => wtK kvs + 3
  | _ => 0
def wtA : List D → Nat
  | [] => 0
  | x :: xs => wt x + 2 + wtA xs
def wtK : List (D × D) → Nat
  | [] => 0
  | (k, v) :: r => wt k + wt v + 4 + wtK r
end
mutual
def dp : D → Nat
  | .lst xs => dpA xs + 1
  | .tup xs => dpA xs + 1
  | .dct kvs => dpK kvs + 1
  | .dci _ kvs => dpK kvs + 1
  | _ => 0
def dpA : List D → Nat
  | [] => 0
  | x :: xs => max (dp x) (dpA xs)
def dpK : List (D × D) → Nat
  | [] => 0
  | (_, v) :: r => max (dp v) (dpK r)
end
/-- a key: a text of plain signs -/
def isStr : D → Bool
  | .str x => x.cps.toList.all fun c => decide (c < 128)
  | _ => false
def ndK (kvs : List (D × D)) : Bool := decide ((kvs.map fun p => keyD p.1).Nodup)
mutual
def gd (b : Nat) : D → Bool
  | .non => true
  | .bl _ => true
  | .int i => decide (i.natAbs ≤ 10 ^ 39 + b)
  | .str x => PyData.strOk x
  | .lst xs => gdA b xs
  | .tup xs => gdA b xs
  | .dct kvs => gdK b kvs && decide (kvs.length < 20 + b) && ndK kvs
  | .dci _ kvs => gdK b kvs && decide (kvs.length < 20 + b) && ndK kvs
  | _ => false
def gdA (b : Nat) : List D → Bool
  | [] => true
  | x :: xs => gd b x && gdA b xs
def gdK (b : Nat) : List (D × D) → Bool
  | [] => true
  | (k, v) :: r => isStr k && gd b k && gd b v && gdK b r
end
structure Val (b w m : Nat) (d : D) : Prop where
  g : gd b d = true
  w : wt d ≤ w
  d : dp d ≤ m
theorem gdA_iff {b : Nat} {xs : List D} : gdA b xs = true ↔ ∀ x ∈ xs, gd b x = true := by
  induction xs with
  | nil => exact ⟨(fun _ _ h => nomatch h), fun _ => rfl⟩
  | cons x xs ih => rw [gdA, Bool.and_eq_true, ih]; simp
theorem gdK_iff {b : Nat} {xs : List (D × D)} : gdK b xs = true ↔ ∀ p ∈ xs, isStr p.1 = true ∧ gd b p.1 = true ∧ gd b p.2 = true := by
  induction xs with
  | nil => exact ⟨(fun _ _ h => nomatch h), fun _ => rfl⟩
  | cons x xs ih =>
    obtain ⟨k, v⟩ := x
    rw [gdK, Bool.and_eq_true, Bool.and_eq_true, Bool.and_eq_true, ih]
    simp [and_assoc]
mutual
theorem gd_mono {b c : Nat} (h : b ≤ c) : ∀ {d : D}, gd b d = true → gd c d = true
  | .non, _ => rfl
  | .bl _, _ => rfl
  | .int i, g => by rw [gd, decide_eq_true_eq] at g ⊢; omega
  | .str x, g => by rw [gd] at g ⊢; exact g
  | .lst xs, g => by rw [gd] at g ⊢; exact gdA_mono h g
  | .tup xs, g => by rw [gd] at g ⊢; exact gdA_mono h g
  | .dct kvs, g => by
    rw [gd, Bool.and_eq_true, Bool.and_eq_true, decide_eq_true_eq] at g ⊢
    exact ⟨⟨gdK_mono h g.1.1, by omega⟩, g.2⟩
  | .dci a kvs, g => by
    rw [gd, Bool.and_eq_true, Bool.and_eq_true, decide_eq_true_eq] at g ⊢
    exact ⟨⟨gdK_mono h g.1.1, by omega⟩, g.2⟩
  | .opq _, g => by simp [gd] at g
  | .scr _ _, g => by simp [gd] at g
  | .dcn _ _, g => by simp [gd] at g
theorem gdA_mono {b c : Nat} (h : b ≤ c) : ∀ {d : List D}, gdA b d = true → gdA c d = true
  | [], _ => rfl
  | x :: xs, g => by
    rw [gdA, Bool.and_eq_true] at g ⊢
    exact ⟨gd_mono h g.1, gdA_mono h g.2⟩
theorem gdK_mono {b c : Nat} (h : b ≤ c) : ∀ {d : List (D × D)}, gdK b d = true → gdK c d = true
  | [], _ => rfl
  | (k, v) :: xs, g => by
    rw [gdK, Bool.and_eq_true, Bool.and_eq_true, Bool.and_eq_true] at g ⊢
    exact ⟨⟨⟨g.1.1.1, gd_mono h g.1.1.2⟩, gd_mono h g.1.2⟩, gdK_mono h g.2⟩
end
theorem Val.mono {b w m b' w' m' : Nat} {d : D} (h : Val b w m d) (h1 : b ≤ b') (h2 : w ≤ w') (h3 : m ≤ m') : Val b' w' m' d := ⟨gd_mono h1 h.g, Nat.le_trans h.w h2, Nat.le_trans h.d h3⟩
theorem ten40 {b : Nat} {i : Int} (hb : b ≤ 1000) (h : i.natAbs ≤ 10 ^ 39 + b) : i.natAbs < 10 ^ 40 := by omega
mutual
theorem gd_shw {b : Nat} (hb : b ≤ 1000) : ∀ {d : D}, gd b d = true → d.ok = true ∧ d.py.showable = true ∧ d.py.depth ≤ dp d ∧ d.py.shown.length ≤ wt d
  | .non, _ => ⟨rfl, rfl, Nat.le_refl _, by decide +kernel⟩
  | .bl x, _ => ⟨rfl, rfl, Nat.le_refl _, by cases x <;> decide +kernel⟩
  | .int i, g => by
    rw [gd, decide_eq_true_eq] at g
    have h40 := ten40 hb g
    refine ⟨rfl, ?_, Nat.le_refl _, ?_⟩
    · rw [D.py, PyData.showable, decide_eq_true_eq]
      by_cases h0 : i.natAbs = 0
      · rw [h0]; decide
      · rw [Nat.log2_lt h0]
        exact Nat.lt_of_lt_of_le h40 (by decide +kernel)
    · rw [D.py, PyData.shown, wt]
      have := int_text_length_le10 (k := 40) (by decide) h40
      have e : (Str.ofString (toString i)).length ≤ (toString i).length := by rw [PySem.ofString_length]; exact Nat.le_refl _
      omega
  | .str x, g => by
    rw [gd] at g
    have := (ShwN.str (n := 0) (k := x.length) g (Nat.le_refl _)).len
    exact ⟨rfl, rfl, Nat.le_refl _, this⟩
  | .lst xs, g => by
    rw [gd] at g
    obtain ⟨h1, h2, h3, h4, h5⟩ := gdA_shw hb g
    refine ⟨by rw [D.ok]; exact h1, by rw [D.py, PyData.showable]; exact h2, by rw [D.py, PyData.depth, dp]; omega, ?_⟩
    rw [D.py, PyData.shown, wt]
    have := listText_len_le (PyData.shownAll (pyA xs))
    omega
  | .tup xs, g => by
    rw [gd] at g
    obtain ⟨h1, h2, h3, h4, h5⟩ := gdA_shw hb g
    refine ⟨by rw [D.ok]; exact h1, by rw [D.py, PyData.showable]; exact h2, by rw [D.py, PyData.depth, dp]; omega, ?_⟩
    rw [D.py, PyData.shown, wt]
    have := tupleText_len_le (PyData.shownAll (pyA xs))
    omega
  | .dct kvs, g => by
    rw [gd, Bool.and_eq_true, Bool.and_eq_true] at g
    obtain ⟨h1, h2, h3, h4, h5⟩ := gdK_shw hb g.1.1
    refine ⟨by rw [D.ok]; exact h1, by rw [D.py, PyData.showable]; exact h2, by rw [D.py, PyData.depth, dp]; omega, ?_⟩
    rw [D.py, PyData.shown, wt]
    have := dictText_len_le (PyData.shownKv (pyK kvs))
    omega
  | .dci a kvs, g => by
    rw [gd, Bool.and_eq_true, Bool.and_eq_true] at g
    obtain ⟨h1, h2, h3, h4, h5⟩ := gdK_shw hb g.1.1
    refine ⟨by rw [D.ok]; exact h1, by rw [D.py, PyData.showable]; exact h2, by rw [D.py, PyData.depth, dp]; omega, ?_⟩
    rw [D.py, PyData.shown, wt]
    have := dictText_len_le (PyData.shownKv (pyK kvs))
    omega
  | .opq _, g => by simp [gd] at g
  | .scr _ _, g => by simp [gd] at g
  | .dcn _ _, g => by simp [gd] at g
theorem gdA_shw {b : Nat} (hb : b ≤ 1000) : ∀ {ds : List D}, gdA b ds = true → okA ds = true ∧ PyData.showableAll (pyA ds) = true ∧ PyData.depthAll (pyA ds) ≤ dpA ds ∧ ((PyData.shownAll (pyA ds)).map (·.length)).sum + 2 * (PyData.shownAll (pyA ds)).length ≤ wtA ds ∧ True
  | [], _ => ⟨rfl, rfl, Nat.le_refl _, Nat.le_refl _, trivial⟩
  | x :: xs, g => by
    rw [gdA, Bool.and_eq_true] at g
    obtain ⟨a1, a2, a3, a4⟩ := gd_shw hb g.1
    obtain ⟨h1, h2, h3, h4, h5⟩ := gdA_shw hb g.2
    refine ⟨by rw [okA, a1, h1]; rfl, by rw [pyA, PyData.showableAll, a2, h2]; rfl, by rw [pyA, PyData.depthAll, dpA]; omega, ?_, trivial⟩
    rw [pyA, PyData.shownAll, List.map_cons, List.sum_cons, List.length_cons, wtA]
    omega
theorem gdK_shw {b : Nat} (hb : b ≤ 1000) : ∀ {ds : List (D × D)}, gdK b ds = true → okK ds = true ∧ PyData.showableKv (pyK ds) = true ∧ PyData.depthKv (pyK ds) ≤ dpK ds ∧ ((PyData.shownKv (pyK ds)).map (·.length)).sum + 2 * (PyData.shownKv (pyK ds)).length ≤ wtK ds ∧ True
  | [], _ => ⟨rfl, rfl, Nat.le_refl _, Nat.le_refl _, trivial⟩
  | (k, v) :: xs, g => by
    rw [gdK, Bool.and_eq_true, Bool.and_eq_true, Bool.and_eq_true] at g
    obtain ⟨⟨⟨g0, g1⟩, g2⟩, g3⟩ := g
    obtain ⟨a1, a2, a3, a4⟩ := gd_shw hb g1
    obtain ⟨b1, b2, b3, b4⟩ := gd_shw hb g2
    obtain ⟨h1, h2, h3, h4, h5⟩ := gdK_shw hb g3
    have hk : dp k = 0 := by cases k <;> first | rfl | cases g0
    refine ⟨by rw [okK, a1, b1, h1]; rfl, by rw [pyK, PyData.showableKv, a2, b2, h2]; rfl, by rw [pyK, PyData.depthKv, dpK]; omega, ?_, trivial⟩
    rw [pyK, PyData.shownKv, List.map_cons, List.sum_cons, List.length_cons, wtK]
    have e : (k.py.shown ++ ": " ++ v.py.shown).length = k.py.shown.length + 2 + v.py.shown.length := by
      rw [strLen_append, strLen_append]
      rfl
    omega
end
theorem Val.shw {b w m : Nat} {d : D} (h : Val b w m d) (hb : b ≤ 1000) (hw : w ≤ 16777216) (hm : m ≤ 64) : d.shw = true := by
  obtain ⟨h1, h2, h3, h4⟩ := gd_shw hb h.g
  unfold D.shw
  rw [h1, h2, decide_eq_true (Nat.le_trans h3 (Nat.le_trans h.d hm)), decide_eq_true (by rw [sizeLine_eq]; exact Nat.le_trans h4 (Nat.le_trans h.w hw))]
  rfl
end DI

set_option Elab.async false
set_option linter.all false
set_option autoImplicit false
set_option maxRecDepth 100000
set_option maxHeartbeats 2000000
/-! DIg: the end of a law with tuples and dicts of the module; what the head's heap says of them, by Bools. -/
namespace DI
open PySem PySem.Spec PyProof.Rows L2 PySem.W
def strsB : List Value → List Str → Bool
  | [], [] => true
  | .str x _ :: us, y :: ys => decide (x = y) && strsB us ys
  | _, _ => false
theorem strsB_ok : ∀ {us : List Value} {ys : List Str}, strsB us ys = true → Vals (ys.map V.str) us
  | [], [], _ => .nil
  | .str x t :: us, y :: ys, h => by
    simp only [strsB, Bool.and_eq_true, decide_eq_true_eq] at h
    obtain ⟨rfl, h⟩ := h
    exact .cons ⟨t, rfl⟩ (strsB_ok h)
def tupB (K : PySem.W.Frag) (a : Addr) (xs : List Str) : Bool := match K.lookup a with
  | some ⟨c, _, .seq its _, _⟩ => (c == .type "tuple") && decide (its.size ≤ sizeLine) && strsB its.toList xs
  | _ => false
theorem rpA_strs {K : PySem.W.Frag} {G : Hp} : ∀ (xs : List Str), RpA K G (xs.map V.str) (xs.map D.str)
  | [] => .nil
  | x :: xs => .cons (.str x) (rpA_strs xs)
theorem tupB_ok {K : PySem.W.Frag} {a : Addr} {xs : List Str} (h : tupB K a xs = true) (G : Hp) : Rp K G (.ref a) (.tup (xs.map D.str)) := by
  unfold tupB at h
  split at h
  · rename_i c d its n sl e
    simp only [Bool.and_eq_true, decide_eq_true_eq, beq_iff_eq] at h
    exact .tup (.inr ⟨_, its, n, e, h.1.1, rfl, h.1.2, strsB_ok h.2⟩) (rpA_strs xs)
  · cases h
def ensB : List DictEntry → List (Str × Str) → Bool
  | [], [] => true
  | e :: r, p :: t => (match e.key, e.val with
    | .str x _, .str y _ => decide (x = p.1) && decide (y = p.2)
    | _, _ => false) && ensB r t
  | _, _ => false
theorem ens_find {z : Str} : ∀ {l : List DictEntry} {tb : List (Str × Str)}, ensB l tb = true → l.any (·.refKey) = false ∧ (match tb.lookup z with
    | none => l.find? (·.key.isStr z) = none
    | some y => ∃ e t, l.find? (·.key.isStr z) = some e ∧ e.val = .str y t)
  | [], [], _ => ⟨rfl, rfl⟩
  | e :: r, (k, v) :: t, h => by
    simp only [ensB, Bool.and_eq_true] at h
    obtain ⟨h1, h2⟩ := h
    obtain ⟨q1, q2⟩ := ens_find (z := z) h2
    split at h1
    · rename_i x tx y ty ek ev
      simp only [Bool.and_eq_true, decide_eq_true_eq] at h1
      obtain ⟨rfl, rfl⟩ := h1
      refine ⟨?_, ?_⟩
      · rw [List.any_cons, q1, Bool.or_false]
        unfold DictEntry.refKey
        rw [ek]
      · rw [List.lookup_cons, List.find?_cons]
        have es : e.key.isStr z = (x == z) := by rw [ek]; rfl
        rw [es]
        by_cases hz : z = x
        · subst hz
          simp only [beq_self_eq_true]
          exact ⟨e, ty, rfl, ev⟩
        · have z1 : (z == x) = false := by simpa using hz
          have z2 : (x == z) = false := by simpa using fun q => hz (Eq.symm q)
          rw [z1, z2]
          exact q2
    · cases h1
def tabB (K : PySem.W.Frag) (a : Addr) (tb : List (Str × Str)) : Bool := match K.lookup a with
  | some ⟨_, _, .dict es _, _⟩ => ensB es.toList tb
  | _ => false
theorem tabB_ok {K : PySem.W.Frag} {a : Addr} {tb : List (Str × Str)} (h : tabB K a tb = true) : TabOf K a tb := by
  intro z
  unfold tabB at h
  split at h
  · rename_i c d es n sl e
    obtain ⟨q1, q2⟩ := ens_find (z := z) h
    unfold PySem.W.nsIn
    rw [e]
    simp only
    cases q : tb.lookup z with
    | none =>
      rw [q] at q2
      simp only at q2
      rw [q2]
      simp only
      rw [q1]
      exact ⟨none, rfl, rfl⟩
    | some y =>
      rw [q] at q2
      obtain ⟨e', t, q2, q3⟩ := q2
      rw [q2]
      simp only
      exact ⟨_, rfl, t, by rw [q3]⟩
  · cases h
def hookG (n : Nat) (fa : List He.Fa) (fn : List He.DefD) (ts : List He.Tab) (ex : PySem.W.Frag → Bool) : PySem.W.Hook where
  α := He.AlX × Bool
  obs := fun s => (He.obsX n fa fn ts [] ex s.heap.get?, isDictAt s.heap.get? sysModules)
  val := fun w => (He.valX fn ts w, true)
  says := fun w h => (∃ K : PySem.W.Frag, K.In h ∧ He.SaysX fa fn ts [] ex w h K) ∧ ∃ o, h.get? sysModules = some o ∧ o.cls = .type "dict"
  of := fun w s e => ⟨⟨_, He.frT_in, He.saysX_of (congrArg Prod.fst e)⟩, isDictAt_of (congrArg Prod.snd e)⟩
  keeps := fun w h h' z k => by
    obtain ⟨⟨K, hK, c⟩, o, z2, z3⟩ := z
    exact ⟨⟨K, PySem.W.Frag.In.keeps hK k, ⟨c.t, c.more, c.hd, c.out, fun p hp => absurd hp List.not_mem_nil⟩⟩, o, k _ _ z2, z3⟩
/-- from the law's promise to the row -/
theorem walkT {l : PySem.W.OpenLaw} {n k : Nat} {q : Program} {loose : List Str} {XP : (Str → Option Value) → Heap → Prop} {fas : List He.Fa} {fns : List He.DefD} {ts : List He.Tab} {ex : PySem.W.Frag → Bool} {m : Nat} {d : DefRec} {x : Str}
    (hn : l.most = some n) (hn2 : n ≤ sizeLine) (hdf : d.params.defaults = []) (hr : Room k callerA)
    (F : ∀ (w : World) (mg : Str → Option Value) (fa : Addr) (h : Heap) (K : PySem.W.Frag), K.In h → He.SaysX fas fns ts [] ex w h K → h.Ns mainGlobals mg → mg d.name = some (.ref fa) →
      ∃ (fd : FuncData) (sp : Sp), (∀ (s : Shared) (u : Value), BindsTo s fd ⟨[u], []⟩ [(x, u)]) ∧
        (∀ (H : Hp) (a : Addr) (ns : List Int), ns.length ≤ n → SqL K H a (ns.map V.int) → sp [.ref a] H (fun v _ => v = .bl true) fun _ _ _ => False) ∧
        ∀ base : Heap, K.In base → base.Ns mainGlobals mg → (∃ o, base.get? sysModules = some o) → FnG l.prog w K mg base true k fa fd [x] sp) :
    PySem.W.WalkO q loose XP (hookG m fas fns ts ex).says l.row.toRowW d [] (fun f vs => PySem.call f vs) := by
  refine Att.attach_call hn hdf ?_
  intro w s₀ s₁ mg mb fa o pm cd doc a vs ns G Y ho hd hcd hmg hobj hints hlen hgn
  obtain ⟨⟨K, KX, c⟩, hsys⟩ := Y
  obtain ⟨fd, sp, hb, hsp, hF⟩ := F w mg fa _ K KX c G.T.g hmg
  exact callLaw KX G.T.g G.T.b G.T.builtins G.T.nolimit hgn hsys hobj hints (Nat.le_trans hlen hn2) hr hF hb fun H _ hS => hsp H a ns hlen hS
end DI

set_option Elab.async false
set_option linter.all false
set_option maxRecDepth 100000
set_option maxHeartbeats 0
/-! ### the text of the law as bodies of the small language (printed by gen.py) -/
namespace Tx
open PySem PySem.Spec PyProof.Rows L2 DI
def top (i : Nat) : Stmt := PySem.Challenge.pw_fourfaces_k79_mends_judged.main.body.getD i (.Pass ⟨0, 0, 0, 0⟩)
def fnNames : List Str := (["is_name", "joined", "kind_of", "kinds_of", "ends_here", "turns_here", "blocks_here", "bounds", "keys_of", "floor", "fewest", "told_by", "mend", "closing", "close", "closes", "lines_left", "is_mend", "cost", "mended"] : List Str) ++ (["_law_bag", "_law_take", "_law_alike", "_law_one", "_law_is_name", "_law_odd", "_law_text", "_law_words_menu", "_law_line_spoilt", "_law_drawn_lines", "_law_kind", "_law_kinds", "_law_close", "_law_mended", "_law_is_mend", "_law_torn_lines", "_law_chance", "_law_otherwise", "_law_mend_right", "_law_text_right"] : List Str) ++ (["_law_odd_kinds_right", "law"] : List Str)
def fnGd : List Bool := ([false, false, false, false, false, false, false, false, false, false, false, false, false, false, false, false, false, false, false, false] : List Bool) ++ ([false, false, true, false, false, false, false, false, false, false, false, false, false, false, false, false, false, false, true, true] : List Bool) ++ ([true, true] : List Bool)
def xfNames : List Str := []
def glNames : List Str := ["LONGEST", "LETTERS", "SINGLES", "PARTS", "PUT"]
def gdNames : List Str := ["INNER"]
def gls : List D := [.int 8, .str "abcdefghijklmnopqrstuvwxyz", .tup [.str "do", .str "mark", .str "leave", .str "again", .str "raise", .str "stop", .str "call"], .tup [.str "always", .str "case", .str "else", .str "end", .str "first", .str "rows"], .tup [.str "end", .str "else", .str "always"]]
def gdv : List (List (Str × Str)) := [[("open", "end"), ("if", "else"), ("of", "first"), ("try", "always")]]
abbrev st_is_name : Stmt := top 3
def sc_is_name : SC := { N := ["thing", "sign"], sc := defScope st_is_name, fnm := fun _ => true, n := 0, fn := fun k => fnNames.getD k "", ng := 5, gl := fun k => glNames.getD k "", gd := false, fg := fun k => fnGd.getD k false, nx := 0, xf := fun k => xfNames.getD k "", ex := false, rs := false, nr := "", hd := none, ngd := 1, gdn := fun k => gdNames.getD k "" }
theorem fs_is_name : FnScope sc_is_name.N ["thing"] sc_is_name.sc := ⟨rfl, rfl, rfl, by decide +kernel, rfl, by decide +kernel, by decide +kernel⟩
def bd_is_name : List CS := [.ite (.or (.not (.val (.bi .isi (.cons (.var 0) (.cons (.tyc "str") .nil))))) (.not (.chn .lt .le (.con (.int 0)) (.bi .len (.cons (.var 0) .nil)) (.glo 0)))) [.ret (.con (.bl false))] [], .ret (.bi .all (.cons (.comp [1] (.name 1) (.seq (.var 0)) .none (.op2 .isin (.var 1) (.glo 1))) .nil))]
theorem ck_is_name : chkB sc_is_name bd_is_name (defBody st_is_name) = true := by decide +kernel
def dd_is_name : He.DefD := ⟨("is_name", none), "is_name", "is_name", defArgs st_is_name, defBody st_is_name, defScope st_is_name, [], []⟩
abbrev st_joined : Stmt := top 5
def sc_joined : SC := { N := ["lines", "line"], sc := defScope st_joined, fnm := fun _ => true, n := 1, fn := fun k => fnNames.getD k "", ng := 5, gl := fun k => glNames.getD k "", gd := false, fg := fun k => fnGd.getD k false, nx := 0, xf := fun k => xfNames.getD k "", ex := false, rs := false, nr := "", hd := none, ngd := 1, gdn := fun k => gdNames.getD k "" }
theorem fs_joined : FnScope sc_joined.N ["lines"] sc_joined.sc := ⟨rfl, rfl, rfl, by decide +kernel, rfl, by decide +kernel, by decide +kernel⟩
def bd_joined : List CS := [.ret (.join (.con (.str "")) (.comp [1] (.name 1) (.seq (.var 0)) .none (.op2 .add (.var 1) (.con (.str "\n")))))]
theorem ck_joined : chkB sc_joined bd_joined (defBody st_joined) = true := by decide +kernel
def dd_joined : He.DefD := ⟨("joined", none), "joined", "joined", defArgs st_joined, defBody st_joined, defScope st_joined, [], []⟩
abbrev st_kind_of : Stmt := top 11
def sc_kind_of : SC := { N := ["line", "words", "word"], sc := defScope st_kind_of, fnm := fun _ => true, n := 2, fn := fun k => fnNames.getD k "", ng := 5, gl := fun k => glNames.getD k "", gd := false, fg := fun k => fnGd.getD k false, nx := 0, xf := fun k => xfNames.getD k "", ex := false, rs := false, nr := "", hd := none, ngd := 1, gdn := fun k => gdNames.getD k "" }
theorem fs_kind_of : FnScope sc_kind_of.N ["line"] sc_kind_of.sc := ⟨rfl, rfl, rfl, by decide +kernel, rfl, by decide +kernel, by decide +kernel⟩
def bd_kind_of : List CS := [.asg (.name 1) (.meth .split (.var 0) (.con (.str " "))), .ite (.cmp .isin (.var 0) (.tup (.cons (.con (.str "else")) (.cons (.con (.str "try")) (.cons (.con (.str "always")) (.cons (.con (.str "end")) .nil)))))) [.ret (.var 0)] [], .ite (.and (.cmp .eq (.bi .len (.cons (.var 1) .nil)) (.con (.int 3))) (.and (.cmp .eq (.op2 .ix (.var 1) (.con (.int 0))) (.con (.str "do"))) (.and (.val (.call 0 (.cons (.op2 .ix (.var 1) (.con (.int 1))) .nil))) (.cmp .eq (.op2 .ix (.var 1) (.con (.int 2))) (.con (.str "of")))))) [.ret (.con (.str "of"))] [], .ite (.and (.cmp .eq (.op2 .ix (.var 1) (.con (.int 0))) (.con (.str "catch"))) (.val (.bi .all (.cons (.comp [2] (.name 2) (.seq (.slc (.var 1) (.some (.con (.int 1))) .none)) .none (.call 0 (.cons (.var 2) .nil))) .nil)))) [.ret (.con (.str "catch"))] [], .ite (.or (.cmp .ne (.bi .len (.cons (.var 1) .nil)) (.con (.int 2))) (.not (.val (.call 0 (.cons (.op2 .ix (.var 1) (.con (.int 1))) .nil))))) [.ret (.con .non)] [], .ite (.cmp .isin (.op2 .ix (.var 1) (.con (.int 0))) (.tup (.cons (.con (.str "case")) (.cons (.con (.str "if")) .nil)))) [.ret (.op2 .ix (.var 1) (.con (.int 0)))] [], .ite (.cmp .isin (.op2 .ix (.var 1) (.con (.int 0))) (.tup (.cons (.con (.str "loop")) (.cons (.con (.str "block")) .nil)))) [.ret (.con (.str "open"))] [], .ret (.ifx (.cmp .isin (.op2 .ix (.var 1) (.con (.int 0))) (.glo 2)) (.con (.str "single")) (.con .non))]
theorem ck_kind_of : chkB sc_kind_of bd_kind_of (defBody st_kind_of) = true := by decide +kernel
def dd_kind_of : He.DefD := ⟨("kind_of", none), "kind_of", "kind_of", defArgs st_kind_of, defBody st_kind_of, defScope st_kind_of, [], []⟩
abbrev st_kinds_of : Stmt := top 12
def sc_kinds_of : SC := { N := ["text", "line"], sc := defScope st_kinds_of, fnm := fun _ => true, n := 3, fn := fun k => fnNames.getD k "", ng := 5, gl := fun k => glNames.getD k "", gd := false, fg := fun k => fnGd.getD k false, nx := 0, xf := fun k => xfNames.getD k "", ex := false, rs := false, nr := "", hd := none, ngd := 1, gdn := fun k => gdNames.getD k "" }
theorem fs_kinds_of : FnScope sc_kinds_of.N ["text"] sc_kinds_of.sc := ⟨rfl, rfl, rfl, by decide +kernel, rfl, by decide +kernel, by decide +kernel⟩
def bd_kinds_of : List CS := [.ret (.comp [1] (.name 1) (.seq (.slc (.meth .split (.var 0) (.con (.str "\n"))) .none (.some (.op1 .neg (.con (.int 1)))))) .none (.call 2 (.cons (.var 1) .nil)))]
theorem ck_kinds_of : chkB sc_kinds_of bd_kinds_of (defBody st_kinds_of) = true := by decide +kernel
def dd_kinds_of : He.DefD := ⟨("kinds_of", none), "kinds_of", "kinds_of", defArgs st_kinds_of, defBody st_kinds_of, defScope st_kinds_of, [], []⟩
abbrev st_ends_here : Stmt := top 13
def sc_ends_here : SC := { N := ["part", "kinds", "begin", "end", "found"], sc := defScope st_ends_here, fnm := fun _ => true, n := 4, fn := fun k => fnNames.getD k "", ng := 5, gl := fun k => glNames.getD k "", gd := false, fg := fun k => fnGd.getD k false, nx := 0, xf := fun k => xfNames.getD k "", ex := false, rs := false, nr := "", hd := none, ngd := 1, gdn := fun k => gdNames.getD k "" }
theorem fs_ends_here : FnScope sc_ends_here.N ["part", "kinds", "begin", "end"] sc_ends_here.sc := ⟨rfl, rfl, rfl, by decide +kernel, rfl, by decide +kernel, by decide +kernel⟩
def bd_ends_here : List CS := [.asg (.name 4) (.lst .nil), .ite (.and (.cmp .eq (.var 0) (.con (.str "rows"))) (.cmp .eq (.var 2) (.var 3))) [.expr (.mut .append 4 (.cons (.con (.int 0)) .nil))] [], .ite (.cmp .isin (.var 0) (.tup (.cons (.con (.str "end")) (.cons (.con (.str "first")) (.cons (.con (.str "case")) .nil))))) [.ite (.cmp .eq (.var 2) (.var 3)) [.expr (.mut .append 4 (.cons (.con (.int 1)) .nil))] [], .ite (.and (.cmp .eq (.var 3) (.op2 .add (.var 2) (.con (.int 1)))) (.cmp .eq (.op2 .ix (.var 1) (.var 2)) (.con (.str "end")))) [.expr (.mut .append 4 (.cons (.con (.int 0)) .nil))] []] [], .ret (.var 4)]
theorem ck_ends_here : chkB sc_ends_here bd_ends_here (defBody st_ends_here) = true := by decide +kernel
def dd_ends_here : He.DefD := ⟨("ends_here", none), "ends_here", "ends_here", defArgs st_ends_here, defBody st_ends_here, defScope st_ends_here, [], []⟩
abbrev st_turns_here : Stmt := top 14
def sc_turns_here : SC := { N := ["part", "kinds", "begin", "end", "here", "found"], sc := defScope st_turns_here, fnm := fun _ => true, n := 5, fn := fun k => fnNames.getD k "", ng := 5, gl := fun k => glNames.getD k "", gd := false, fg := fun k => fnGd.getD k false, nx := 0, xf := fun k => xfNames.getD k "", ex := false, rs := false, nr := "", hd := none, ngd := 1, gdn := fun k => gdNames.getD k "" }
theorem fs_turns_here : FnScope sc_turns_here.N ["part", "kinds", "begin", "end"] sc_turns_here.sc := ⟨rfl, rfl, rfl, by decide +kernel, rfl, by decide +kernel, by decide +kernel⟩
def bd_turns_here : List CS := [.par 4 5 (.ifx (.cmp .lt (.var 2) (.var 3)) (.op2 .ix (.var 1) (.var 2)) (.con .non)) (.lst .nil), .ite (.cmp .lt (.var 2) (.var 3)) [.expr (.mut .append 5 (.cons (.tup (.cons (.con (.int 1)) (.cons (.tup (.cons (.var 0) (.cons (.op2 .add (.var 2) (.con (.int 1))) (.cons (.var 3) .nil)))) .nil))) .nil))] [], .ite (.and (.cmp .eq (.var 4) (.con (.str "single"))) (.cmp .ne (.var 0) (.con (.str "first")))) [.expr (.mut .append 5 (.cons (.tup (.cons (.con (.int 0)) (.cons (.tup (.cons (.var 0) (.cons (.op2 .add (.var 2) (.con (.int 1))) (.cons (.var 3) .nil)))) .nil))) .nil))] [], .ite (.and (.cmp .eq (.var 4) (.con (.str "case"))) (.cmp .isin (.var 0) (.tup (.cons (.con (.str "first")) (.cons (.con (.str "case")) .nil))))) [.expr (.mut .append 5 (.cons (.tup (.cons (.con (.int 0)) (.cons (.tup (.cons (.con (.str "case")) (.cons (.op2 .add (.var 2) (.con (.int 1))) (.cons (.var 3) .nil)))) .nil))) .nil))] [], .ite (.cmp .isin (.var 0) (.tup (.cons (.con (.str "else")) (.cons (.con (.str "always")) .nil)))) [.expr (.mut .append 5 (.cons (.tup (.cons (.con (.int 1)) (.cons (.tup (.cons (.con (.str "end")) (.cons (.var 2) (.cons (.var 3) .nil)))) .nil))) .nil)), .ite (.cmp .eq (.var 4) (.var 0)) [.expr (.mut .append 5 (.cons (.tup (.cons (.con (.int 0)) (.cons (.tup (.cons (.con (.str "end")) (.cons (.op2 .add (.var 2) (.con (.int 1))) (.cons (.var 3) .nil)))) .nil))) .nil))] []] [], .ite (.and (.cmp .eq (.var 4) (.con (.str "catch"))) (.cmp .eq (.var 0) (.con (.str "always")))) [.expr (.mut .append 5 (.cons (.tup (.cons (.con (.int 0)) (.cons (.tup (.cons (.con (.str "always")) (.cons (.op2 .add (.var 2) (.con (.int 1))) (.cons (.var 3) .nil)))) .nil))) .nil))] [], .ret (.var 5)]
theorem ck_turns_here : chkB sc_turns_here bd_turns_here (defBody st_turns_here) = true := by decide +kernel
def dd_turns_here : He.DefD := ⟨("turns_here", none), "turns_here", "turns_here", defArgs st_turns_here, defBody st_turns_here, defScope st_turns_here, [], []⟩
abbrev st_blocks_here : Stmt := top 15
def sc_blocks_here : SC := { N := ["part", "kinds", "begin", "end", "inner", "middle"], sc := defScope st_blocks_here, fnm := fun _ => true, n := 6, fn := fun k => fnNames.getD k "", ng := 5, gl := fun k => glNames.getD k "", gd := false, fg := fun k => fnGd.getD k false, nx := 0, xf := fun k => xfNames.getD k "", ex := false, rs := false, nr := "", hd := none, ngd := 1, gdn := fun k => gdNames.getD k "" }
theorem fs_blocks_here : FnScope sc_blocks_here.N ["part", "kinds", "begin", "end"] sc_blocks_here.sc := ⟨rfl, rfl, rfl, by decide +kernel, rfl, by decide +kernel, by decide +kernel⟩
def bd_blocks_here : List CS := [.ite (.or (.cmp .eq (.var 2) (.var 3)) (.or (.cmp .eq (.var 0) (.con (.str "first"))) (.gin true 0 (.op2 .ix (.var 1) (.var 2))))) [.ret (.lst .nil)] [], .asg (.name 4) (.gix 0 (.op2 .ix (.var 1) (.var 2))), .ret (.comp [5] (.name 5) (.range (.cons (.op2 .add (.var 2) (.con (.int 1))) (.cons (.op2 .add (.var 3) (.con (.int 1))) .nil))) .none (.tup (.cons (.tup (.cons (.var 4) (.cons (.op2 .add (.var 2) (.con (.int 1))) (.cons (.var 5) .nil)))) (.cons (.tup (.cons (.var 0) (.cons (.var 5) (.cons (.var 3) .nil)))) .nil))))]
theorem ck_blocks_here : chkB sc_blocks_here bd_blocks_here (defBody st_blocks_here) = true := by decide +kernel
def dd_blocks_here : He.DefD := ⟨("blocks_here", none), "blocks_here", "blocks_here", defArgs st_blocks_here, defBody st_blocks_here, defScope st_blocks_here, [], []⟩
abbrev st_bounds : Stmt := top 16
def sc_bounds : SC := { N := ["table", "kinds", "key", "found", "price", "other", "one"], sc := defScope st_bounds, fnm := fun _ => true, n := 7, fn := fun k => fnNames.getD k "", ng := 5, gl := fun k => glNames.getD k "", gd := false, fg := fun k => fnGd.getD k false, nx := 0, xf := fun k => xfNames.getD k "", ex := false, rs := false, nr := "", hd := none, ngd := 1, gdn := fun k => gdNames.getD k "" }
theorem fs_bounds : FnScope sc_bounds.N ["table", "kinds", "key"] sc_bounds.sc := ⟨rfl, rfl, rfl, by decide +kernel, rfl, by decide +kernel, by decide +kernel⟩
def bd_bounds : List CS := [.asg (.name 3) (.call 4 (.cons (.op2 .ix (.var 2) (.con (.int 0))) (.cons (.var 1) (.cons (.op2 .ix (.var 2) (.con (.int 1))) (.cons (.op2 .ix (.var 2) (.con (.int 2))) .nil))))), .expr (.mut .extend 3 (.cons (.comp [4, 5] (.tup [4, 5]) (.seq (.call 5 (.cons (.op2 .ix (.var 2) (.con (.int 0))) (.cons (.var 1) (.cons (.op2 .ix (.var 2) (.con (.int 1))) (.cons (.op2 .ix (.var 2) (.con (.int 2))) .nil)))))) .none (.op2 .add (.var 4) (.op2 .ix (.var 0) (.var 5)))) .nil)), .ret (.op2 .add (.var 3) (.comp [6, 5] (.tup [6, 5]) (.seq (.call 6 (.cons (.op2 .ix (.var 2) (.con (.int 0))) (.cons (.var 1) (.cons (.op2 .ix (.var 2) (.con (.int 1))) (.cons (.op2 .ix (.var 2) (.con (.int 2))) .nil)))))) .none (.op2 .add (.op2 .ix (.var 0) (.var 6)) (.op2 .ix (.var 0) (.var 5)))))]
theorem ck_bounds : chkB sc_bounds bd_bounds (defBody st_bounds) = true := by decide +kernel
def dd_bounds : He.DefD := ⟨("bounds", none), "bounds", "bounds", defArgs st_bounds, defBody st_bounds, defScope st_bounds, [], []⟩
abbrev st_keys_of : Stmt := top 17
def sc_keys_of : SC := { N := ["many", "found", "length", "begin", "part", "one"], sc := defScope st_keys_of, fnm := fun _ => true, n := 8, fn := fun k => fnNames.getD k "", ng := 5, gl := fun k => glNames.getD k "", gd := false, fg := fun k => fnGd.getD k false, nx := 0, xf := fun k => xfNames.getD k "", ex := false, rs := false, nr := "", hd := none, ngd := 1, gdn := fun k => gdNames.getD k "" }
theorem fs_keys_of : FnScope sc_keys_of.N ["many"] sc_keys_of.sc := ⟨rfl, rfl, rfl, by decide +kernel, rfl, by decide +kernel, by decide +kernel⟩
def bd_keys_of : List CS := [.asg (.name 1) (.lst .nil), .for_ (.name 2) (.range (.cons (.op2 .add (.var 0) (.con (.int 1))) .nil)) [.for_ (.name 3) (.range (.cons (.op2 .add (.op2 .sub (.var 0) (.var 2)) (.con (.int 1))) .nil)) [.expr (.mut .extend 1 (.cons (.comp [4] (.name 4) (.seq (.tup (.cons (.con (.str "end")) (.star (.comp [5] (.name 5) (.seq (.glo 3)) (.some (.cmp .ne (.var 5) (.con (.str "end")))) (.var 5)) .nil)))) .none (.tup (.cons (.var 4) (.cons (.var 3) (.cons (.op2 .add (.var 3) (.var 2)) .nil))))) .nil))]], .ret (.var 1)]
theorem ck_keys_of : chkB sc_keys_of bd_keys_of (defBody st_keys_of) = true := by decide +kernel
def dd_keys_of : He.DefD := ⟨("keys_of", none), "keys_of", "keys_of", defArgs st_keys_of, defBody st_keys_of, defScope st_keys_of, [], []⟩
abbrev st_floor : Stmt := top 18
def sc_floor : SC := { N := ["text", "key", "kinds", "found"], sc := defScope st_floor, fnm := fun _ => true, n := 9, fn := fun k => fnNames.getD k "", ng := 5, gl := fun k => glNames.getD k "", gd := false, fg := fun k => fnGd.getD k false, nx := 0, xf := fun k => xfNames.getD k "", ex := false, rs := false, nr := "", hd := none, ngd := 1, gdn := fun k => gdNames.getD k "" }
theorem fs_floor : FnScope sc_floor.N ["text"] sc_floor.sc := ⟨rfl, rfl, rfl, by decide +kernel, rfl, by decide +kernel, by decide +kernel⟩
def bd_floor : List CS := [.par 2 3 (.call 3 (.cons (.var 0) .nil)) .dn0, .for_ (.name 1) (.seq (.call 8 (.cons (.bi .len (.cons (.var 2) .nil)) .nil))) [.dset 3 (.var 1) (.bi .min (.cons (.callS 7 (.cons (.var 3) (.cons (.var 2) (.cons (.var 1) .nil)))) .nil))], .ret (.dcomp [1] (.name 1) (.seq (.sortn (.var 3))) (.var 1) (.op2 .ix (.var 3) (.var 1)))]
theorem ck_floor : chkB sc_floor bd_floor (defBody st_floor) = true := by decide +kernel
def dd_floor : He.DefD := ⟨("floor", none), "floor", "floor", defArgs st_floor, defBody st_floor, defScope st_floor, [], []⟩
abbrev st_fewest : Stmt := top 19
def sc_fewest : SC := { N := ["text", "kinds"], sc := defScope st_fewest, fnm := fun _ => true, n := 10, fn := fun k => fnNames.getD k "", ng := 5, gl := fun k => glNames.getD k "", gd := false, fg := fun k => fnGd.getD k false, nx := 0, xf := fun k => xfNames.getD k "", ex := false, rs := false, nr := "", hd := none, ngd := 1, gdn := fun k => gdNames.getD k "" }
theorem fs_fewest : FnScope sc_fewest.N ["text"] sc_fewest.sc := ⟨rfl, rfl, rfl, by decide +kernel, rfl, by decide +kernel, by decide +kernel⟩
def bd_fewest : List CS := [.asg (.name 1) (.call 3 (.cons (.var 0) .nil)), .ret (.op2 .ix (.call 9 (.cons (.var 0) .nil)) (.tup (.cons (.con (.str "rows")) (.cons (.con (.int 0)) (.cons (.bi .len (.cons (.var 1) .nil)) .nil)))))]
theorem ck_fewest : chkB sc_fewest bd_fewest (defBody st_fewest) = true := by decide +kernel
def dd_fewest : He.DefD := ⟨("fewest", none), "fewest", "fewest", defArgs st_fewest, defBody st_fewest, defScope st_fewest, [], []⟩
abbrev st_told_by : Stmt := top 20
def sc_told_by : SC := { N := ["table", "kinds", "key", "number", "blocks", "part", "begin", "end", "price", "other", "one", "word", "pair"], sc := defScope st_told_by, fnm := fun _ => true, n := 12, fn := fun k => fnNames.getD k "", ng := 5, gl := fun k => glNames.getD k "", gd := false, fg := fun k => fnGd.getD k false, nx := 0, xf := fun k => xfNames.getD k "", ex := false, rs := false, nr := "", hd := none, ngd := 1, gdn := fun k => gdNames.getD k "" }
theorem fs_told_by : FnScope sc_told_by.N ["table", "kinds", "key"] sc_told_by.sc := ⟨rfl, rfl, rfl, by decide +kernel, rfl, by decide +kernel, by decide +kernel⟩
def bd_told_by : List CS := [.asg (.tup [5, 6, 7]) (.var 2), .asg (.name 3) (.op2 .ix (.var 0) (.var 2)), .ite (.cmp .isin (.var 3) (.call 4 (.cons (.var 5) (.cons (.var 1) (.cons (.var 6) (.cons (.var 7) .nil)))))) [.ret (.ifx (.cmp .eq (.var 6) (.var 7)) (.op2 .mul (.lst (.cons (.con (.str "end")) .nil)) (.var 3)) (.lst (.cons (.con (.str "keep")) .nil)))] [], .for_ (.tup [8, 9]) (.seq (.call 5 (.cons (.var 5) (.cons (.var 1) (.cons (.var 6) (.cons (.var 7) .nil)))))) [.ite (.cmp .eq (.op2 .add (.var 8) (.op2 .ix (.var 0) (.var 9))) (.var 3)) [.asg (.name 11) (.ifx (.cmp .eq (.var 8) (.con (.int 0))) (.con (.str "keep")) (.ifx (.cmp .eq (.op2 .ix (.var 9) (.con (.int 1))) (.var 6)) (.var 5) (.con (.str "strike")))), .ret (.lst (.cons (.var 11) (.star (.call 11 (.cons (.var 0) (.cons (.var 1) (.cons (.var 9) .nil)))) .nil)))] []], .asg (.name 4) (.call 6 (.cons (.var 5) (.cons (.var 1) (.cons (.var 6) (.cons (.var 7) .nil))))), .asg (.tup [10, 9]) (.op2 .ix (.comp [12] (.name 12) (.seq (.var 4)) (.some (.cmp .eq (.op2 .add (.op2 .ix (.var 0) (.op2 .ix (.var 12) (.con (.int 0)))) (.op2 .ix (.var 0) (.op2 .ix (.var 12) (.con (.int 1))))) (.var 3))) (.var 12)) (.con (.int 0))), .ret (.lst (.cons (.con (.str "keep")) (.star (.call 11 (.cons (.var 0) (.cons (.var 1) (.cons (.var 10) .nil)))) (.star (.call 11 (.cons (.var 0) (.cons (.var 1) (.cons (.var 9) .nil)))) .nil))))]
theorem ck_told_by : chkB sc_told_by bd_told_by (defBody st_told_by) = true := by decide +kernel
def dd_told_by : He.DefD := ⟨("told_by", none), "told_by", "told_by", defArgs st_told_by, defBody st_told_by, defScope st_told_by, [], []⟩
abbrev st_mend : Stmt := top 21
def sc_mend : SC := { N := ["text", "kinds"], sc := defScope st_mend, fnm := fun _ => true, n := 12, fn := fun k => fnNames.getD k "", ng := 5, gl := fun k => glNames.getD k "", gd := false, fg := fun k => fnGd.getD k false, nx := 0, xf := fun k => xfNames.getD k "", ex := false, rs := false, nr := "", hd := none, ngd := 1, gdn := fun k => gdNames.getD k "" }
theorem fs_mend : FnScope sc_mend.N ["text"] sc_mend.sc := ⟨rfl, rfl, rfl, by decide +kernel, rfl, by decide +kernel, by decide +kernel⟩
def bd_mend : List CS := [.asg (.name 1) (.call 3 (.cons (.var 0) .nil)), .ret (.call 11 (.cons (.call 9 (.cons (.var 0) .nil)) (.cons (.var 1) (.cons (.tup (.cons (.con (.str "rows")) (.cons (.con (.int 0)) (.cons (.bi .len (.cons (.var 1) .nil)) .nil)))) .nil))))]
theorem ck_mend : chkB sc_mend bd_mend (defBody st_mend) = true := by decide +kernel
def dd_mend : He.DefD := ⟨("mend", none), "mend", "mend", defArgs st_mend, defBody st_mend, defScope st_mend, [], []⟩
abbrev st_closing : Stmt := top 22
def sc_closing : SC := { N := ["kinds", "at", "part", "here"], sc := defScope st_closing, fnm := fun _ => true, n := 14, fn := fun k => fnNames.getD k "", ng := 5, gl := fun k => glNames.getD k "", gd := false, fg := fun k => fnGd.getD k false, nx := 0, xf := fun k => xfNames.getD k "", ex := false, rs := false, nr := "", hd := none, ngd := 1, gdn := fun k => gdNames.getD k "" }
theorem fs_closing : FnScope sc_closing.N ["kinds", "at", "part"] sc_closing.sc := ⟨rfl, rfl, rfl, by decide +kernel, rfl, by decide +kernel, by decide +kernel⟩
def bd_closing : List CS := [.while_ (.cmp .lt (.var 1) (.bi .len (.cons (.var 0) .nil))) [.asg (.name 3) (.op2 .ix (.var 0) (.var 1)), .aug 1 .add (.con (.int 1)), .ite (.and (.cmp .eq (.var 3) (.con (.str "end"))) (.cmp .isin (.var 2) (.tup (.cons (.con (.str "end")) (.cons (.con (.str "first")) (.cons (.con (.str "case")) .nil)))))) [.ret (.var 1)] [], .ite (.and (.gin false 0 (.var 3)) (.cmp .ne (.var 2) (.con (.str "first")))) [.asg (.name 1) (.call 13 (.cons (.var 0) (.cons (.var 1) (.cons (.gix 0 (.var 3)) .nil)))), .ite (.cmp .is (.var 1) (.con .non)) [.ret (.con .non)] []] [.ite (.and (.cmp .eq (.var 3) (.con (.str "case"))) (.cmp .isin (.var 2) (.tup (.cons (.con (.str "first")) (.cons (.con (.str "case")) .nil))))) [.asg (.name 2) (.con (.str "case"))] [.ite (.and (.cmp .isin (.var 3) (.tup (.cons (.con (.str "else")) (.cons (.con (.str "always")) .nil)))) (.cmp .eq (.var 3) (.var 2))) [.asg (.name 2) (.con (.str "end"))] [.ite (.and (.not (.and (.cmp .eq (.var 3) (.con (.str "single"))) (.cmp .ne (.var 2) (.con (.str "first"))))) (.not (.and (.cmp .eq (.var 3) (.con (.str "catch"))) (.cmp .eq (.var 2) (.con (.str "always")))))) [.ret (.con .non)] []]]]], .ret (.ifx (.cmp .eq (.var 2) (.con (.str "rows"))) (.var 1) (.con .non))]
theorem ck_closing : chkB sc_closing bd_closing (defBody st_closing) = true := by decide +kernel
def dd_closing : He.DefD := ⟨("closing", none), "closing", "closing", defArgs st_closing, defBody st_closing, defScope st_closing, [], []⟩
abbrev st_close : Stmt := top 23
def sc_close : SC := { N := ["kinds"], sc := defScope st_close, fnm := fun _ => true, n := 14, fn := fun k => fnNames.getD k "", ng := 5, gl := fun k => glNames.getD k "", gd := false, fg := fun k => fnGd.getD k false, nx := 0, xf := fun k => xfNames.getD k "", ex := false, rs := false, nr := "", hd := none, ngd := 1, gdn := fun k => gdNames.getD k "" }
theorem fs_close : FnScope sc_close.N ["kinds"] sc_close.sc := ⟨rfl, rfl, rfl, by decide +kernel, rfl, by decide +kernel, by decide +kernel⟩
def bd_close : List CS := [.ret (.op2 .isnot (.call 13 (.cons (.var 0) (.cons (.con (.int 0)) (.cons (.con (.str "rows")) .nil)))) (.con .non))]
theorem ck_close : chkB sc_close bd_close (defBody st_close) = true := by decide +kernel
def dd_close : He.DefD := ⟨("close", none), "close", "close", defArgs st_close, defBody st_close, defScope st_close, [], []⟩
abbrev st_closes : Stmt := top 24
def sc_closes : SC := { N := ["text"], sc := defScope st_closes, fnm := fun _ => true, n := 15, fn := fun k => fnNames.getD k "", ng := 5, gl := fun k => glNames.getD k "", gd := false, fg := fun k => fnGd.getD k false, nx := 0, xf := fun k => xfNames.getD k "", ex := false, rs := false, nr := "", hd := none, ngd := 1, gdn := fun k => gdNames.getD k "" }
theorem fs_closes : FnScope sc_closes.N ["text"] sc_closes.sc := ⟨rfl, rfl, rfl, by decide +kernel, rfl, by decide +kernel, by decide +kernel⟩
def bd_closes : List CS := [.ret (.call 14 (.cons (.call 3 (.cons (.var 0) .nil)) .nil))]
theorem ck_closes : chkB sc_closes bd_closes (defBody st_closes) = true := by decide +kernel
def dd_closes : He.DefD := ⟨("closes", none), "closes", "closes", defArgs st_closes, defBody st_closes, defScope st_closes, [], []⟩
abbrev st_lines_left : Stmt := top 25
def sc_lines_left : SC := { N := ["text", "words", "word", "lines", "found", "line"], sc := defScope st_lines_left, fnm := fun _ => true, n := 16, fn := fun k => fnNames.getD k "", ng := 5, gl := fun k => glNames.getD k "", gd := false, fg := fun k => fnGd.getD k false, nx := 0, xf := fun k => xfNames.getD k "", ex := false, rs := false, nr := "", hd := none, ngd := 1, gdn := fun k => gdNames.getD k "" }
theorem fs_lines_left : FnScope sc_lines_left.N ["text", "words"] sc_lines_left.sc := ⟨rfl, rfl, rfl, by decide +kernel, rfl, by decide +kernel, by decide +kernel⟩
def bd_lines_left : List CS := [.par 3 4 (.slc (.meth .split (.var 0) (.con (.str "\n"))) .none (.some (.op1 .neg (.con (.int 1))))) (.lst .nil), .for_ (.name 2) (.seq (.var 1)) [.ite (.cmp .isin (.var 2) (.glo 4)) [.expr (.mut .append 4 (.cons (.var 2) .nil))] [.asg (.name 5) (.mut .popAt 3 (.cons (.con (.int 0)) .nil)), .expr (.mut .extend 4 (.cons (.ifx (.cmp .eq (.var 2) (.con (.str "keep"))) (.lst (.cons (.var 5) .nil)) (.lst .nil)) .nil))]], .ret (.var 4)]
theorem ck_lines_left : chkB sc_lines_left bd_lines_left (defBody st_lines_left) = true := by decide +kernel
def dd_lines_left : He.DefD := ⟨("lines_left", none), "lines_left", "lines_left", defArgs st_lines_left, defBody st_lines_left, defScope st_lines_left, [], []⟩
abbrev st_is_mend : Stmt := top 26
def sc_is_mend : SC := { N := ["text", "thing", "words", "line", "word"], sc := defScope st_is_mend, fnm := fun _ => true, n := 17, fn := fun k => fnNames.getD k "", ng := 5, gl := fun k => glNames.getD k "", gd := false, fg := fun k => fnGd.getD k false, nx := 0, xf := fun k => xfNames.getD k "", ex := false, rs := false, nr := "", hd := none, ngd := 1, gdn := fun k => gdNames.getD k "" }
theorem fs_is_mend : FnScope sc_is_mend.N ["text", "thing"] sc_is_mend.sc := ⟨rfl, rfl, rfl, by decide +kernel, rfl, by decide +kernel, by decide +kernel⟩
def bd_is_mend : List CS := [.asg (.name 2) (.tup (.cons (.con (.str "keep")) (.cons (.con (.str "strike")) (.star (.glo 4) .nil)))), .ite (.or (.not (.val (.bi .isi (.cons (.var 1) (.cons (.tyc "list") .nil))))) (.not (.val (.bi .all (.cons (.comp [4] (.name 4) (.seq (.var 1)) .none (.and (.bi .isi (.cons (.var 4) (.cons (.tyc "str") .nil))) (.op2 .isin (.var 4) (.var 2)))) .nil))))) [.ret (.con (.bl false))] [], .ite (.cmp .ne (.bi .len (.cons (.comp [4] (.name 4) (.seq (.var 1)) (.some (.cmp .notin (.var 4) (.glo 4))) (.var 4)) .nil)) (.bi .len (.cons (.call 3 (.cons (.var 0) .nil)) .nil))) [.ret (.con (.bl false))] [], .ret (.call 14 (.cons (.comp [3] (.name 3) (.seq (.call 16 (.cons (.var 0) (.cons (.var 1) .nil)))) .none (.call 2 (.cons (.var 3) .nil))) .nil))]
theorem ck_is_mend : chkB sc_is_mend bd_is_mend (defBody st_is_mend) = true := by decide +kernel
def dd_is_mend : He.DefD := ⟨("is_mend", none), "is_mend", "is_mend", defArgs st_is_mend, defBody st_is_mend, defScope st_is_mend, [], []⟩
abbrev st_cost : Stmt := top 27
def sc_cost : SC := { N := ["told", "word"], sc := defScope st_cost, fnm := fun _ => true, n := 18, fn := fun k => fnNames.getD k "", ng := 5, gl := fun k => glNames.getD k "", gd := false, fg := fun k => fnGd.getD k false, nx := 0, xf := fun k => xfNames.getD k "", ex := false, rs := false, nr := "", hd := none, ngd := 1, gdn := fun k => gdNames.getD k "" }
theorem fs_cost : FnScope sc_cost.N ["told"] sc_cost.sc := ⟨rfl, rfl, rfl, by decide +kernel, rfl, by decide +kernel, by decide +kernel⟩
def bd_cost : List CS := [.ret (.bi .len (.cons (.comp [1] (.name 1) (.seq (.var 0)) (.some (.cmp .ne (.var 1) (.con (.str "keep")))) (.var 1)) .nil))]
theorem ck_cost : chkB sc_cost bd_cost (defBody st_cost) = true := by decide +kernel
def dd_cost : He.DefD := ⟨("cost", none), "cost", "cost", defArgs st_cost, defBody st_cost, defScope st_cost, [], []⟩
abbrev st_mended : Stmt := top 28
def sc_mended : SC := { N := ["text", "told"], sc := defScope st_mended, fnm := fun _ => true, n := 19, fn := fun k => fnNames.getD k "", ng := 5, gl := fun k => glNames.getD k "", gd := false, fg := fun k => fnGd.getD k false, nx := 0, xf := fun k => xfNames.getD k "", ex := false, rs := false, nr := "", hd := none, ngd := 1, gdn := fun k => gdNames.getD k "" }
theorem fs_mended : FnScope sc_mended.N ["text", "told"] sc_mended.sc := ⟨rfl, rfl, rfl, by decide +kernel, rfl, by decide +kernel, by decide +kernel⟩
def bd_mended : List CS := [.ret (.call 1 (.cons (.call 16 (.cons (.var 0) (.cons (.var 1) .nil))) .nil))]
theorem ck_mended : chkB sc_mended bd_mended (defBody st_mended) = true := by decide +kernel
def dd_mended : He.DefD := ⟨("mended", none), "mended", "mended", defArgs st_mended, defBody st_mended, defScope st_mended, [], []⟩
abbrev st_l_bag : Stmt := top 30
def sc_l_bag : SC := { N := ["_law_script", "_law_cell"], sc := defScope st_l_bag, fnm := fun _ => true, n := 20, fn := fun k => fnNames.getD k "", ng := 5, gl := fun k => glNames.getD k "", gd := false, fg := fun k => fnGd.getD k false, nx := 0, xf := fun k => xfNames.getD k "", ex := false, rs := false, nr := "", hd := none, ngd := 1, gdn := fun k => gdNames.getD k "" }
theorem fs_l_bag : FnScope sc_l_bag.N ["_law_script"] sc_l_bag.sc := ⟨rfl, rfl, rfl, by decide +kernel, rfl, by decide +kernel, by decide +kernel⟩
def dd_l_bag : He.DefD := ⟨("_law_bag", none), "_law_bag", "_law_bag", defArgs st_l_bag, defBody st_l_bag, defScope st_l_bag, [], []⟩
abbrev st_l_take : Stmt := top 31
def sc_l_take : SC := { N := ["_law_bag_here", "_law_many", "_law_begin", "_law_second", "_law_cell", "_law_mixed", "_law_value"], sc := defScope st_l_take, fnm := fun _ => true, n := 21, fn := fun k => fnNames.getD k "", ng := 5, gl := fun k => glNames.getD k "", gd := false, fg := fun k => fnGd.getD k false, nx := 0, xf := fun k => xfNames.getD k "", ex := false, rs := false, nr := "", hd := none, ngd := 1, gdn := fun k => gdNames.getD k "" }
theorem fs_l_take : FnScope sc_l_take.N ["_law_bag_here", "_law_many"] sc_l_take.sc := ⟨rfl, rfl, rfl, by decide +kernel, rfl, by decide +kernel, by decide +kernel⟩
def dd_l_take : He.DefD := ⟨("_law_take", none), "_law_take", "_law_take", defArgs st_l_take, defBody st_l_take, defScope st_l_take, [], []⟩
abbrev st_l_alike : Stmt := top 32
def sc_l_alike : SC := { N := ["_law_found", "_law_due"], sc := defScope st_l_alike, fnm := fun _ => true, n := 22, fn := fun k => fnNames.getD k "", ng := 5, gl := fun k => glNames.getD k "", gd := true, fg := fun k => fnGd.getD k false, nx := 0, xf := fun k => xfNames.getD k "", ex := false, rs := false, nr := "", hd := none, ngd := 1, gdn := fun k => gdNames.getD k "" }
theorem fs_l_alike : FnScope sc_l_alike.N ["_law_found", "_law_due"] sc_l_alike.sc := ⟨rfl, rfl, rfl, by decide +kernel, rfl, by decide +kernel, by decide +kernel⟩
def bd_l_alike : List CS := [.ret (.and (.op2 .eq (.var 0) (.var 1)) (.op2 .eq (.bi .repr (.cons (.var 0) .nil)) (.bi .repr (.cons (.var 1) .nil))))]
theorem ck_l_alike : chkB sc_l_alike bd_l_alike (defBody st_l_alike) = true := by decide +kernel
def dd_l_alike : He.DefD := ⟨("_law_alike", none), "_law_alike", "_law_alike", defArgs st_l_alike, defBody st_l_alike, defScope st_l_alike, [], []⟩
abbrev st_l_one : Stmt := top 33
def sc_l_one : SC := { N := ["_law_bag_here", "_law_things"], sc := defScope st_l_one, fnm := fun _ => true, n := 23, fn := fun k => fnNames.getD k "", ng := 5, gl := fun k => glNames.getD k "", gd := false, fg := fun k => fnGd.getD k false, nx := 0, xf := fun k => xfNames.getD k "", ex := false, rs := false, nr := "", hd := none, ngd := 1, gdn := fun k => gdNames.getD k "" }
theorem fs_l_one : FnScope sc_l_one.N ["_law_bag_here", "_law_things"] sc_l_one.sc := ⟨rfl, rfl, rfl, by decide +kernel, rfl, by decide +kernel, by decide +kernel⟩
def bd_l_one : List CS := [.ret (.op2 .ix (.var 1) (.call 21 (.cons (.var 0) (.cons (.bi .len (.cons (.var 1) .nil)) .nil))))]
theorem ck_l_one : chkB sc_l_one bd_l_one (defBody st_l_one) = true := by decide +kernel
def dd_l_one : He.DefD := ⟨("_law_one", none), "_law_one", "_law_one", defArgs st_l_one, defBody st_l_one, defScope st_l_one, [], []⟩
abbrev st_l_is_name : Stmt := top 34
def sc_l_is_name : SC := { N := ["_law_thing", "_law_letters", "_law_sign"], sc := defScope st_l_is_name, fnm := fun _ => true, n := 24, fn := fun k => fnNames.getD k "", ng := 5, gl := fun k => glNames.getD k "", gd := false, fg := fun k => fnGd.getD k false, nx := 0, xf := fun k => xfNames.getD k "", ex := false, rs := false, nr := "", hd := none, ngd := 1, gdn := fun k => gdNames.getD k "" }
theorem fs_l_is_name : FnScope sc_l_is_name.N ["_law_thing"] sc_l_is_name.sc := ⟨rfl, rfl, rfl, by decide +kernel, rfl, by decide +kernel, by decide +kernel⟩
def bd_l_is_name : List CS := [.asg (.name 1) (.con (.str "abcdefghijklmnopqrstuvwxyz")), .ret (.and (.bi .isi (.cons (.var 0) (.cons (.tyc "str") .nil))) (.and (.chn .lt .lt (.con (.int 0)) (.bi .len (.cons (.var 0) .nil)) (.con (.int 9))) (.op2 .eq (.comp [2] (.name 2) (.seq (.var 0)) (.some (.cmp .notin (.var 2) (.var 1))) (.var 2)) (.lst .nil))))]
theorem ck_l_is_name : chkB sc_l_is_name bd_l_is_name (defBody st_l_is_name) = true := by decide +kernel
def dd_l_is_name : He.DefD := ⟨("_law_is_name", none), "_law_is_name", "_law_is_name", defArgs st_l_is_name, defBody st_l_is_name, defScope st_l_is_name, [], []⟩
abbrev st_l_odd : Stmt := top 35
def sc_l_odd : SC := { N := ["_law_bag_here", "_law_deep", "_law_k", "_law_some"], sc := defScope st_l_odd, fnm := fun _ => true, n := 25, fn := fun k => fnNames.getD k "", ng := 5, gl := fun k => glNames.getD k "", gd := false, fg := fun k => fnGd.getD k false, nx := 0, xf := fun k => xfNames.getD k "", ex := false, rs := false, nr := "", hd := none, ngd := 1, gdn := fun k => gdNames.getD k "" }
theorem fs_l_odd : FnScope sc_l_odd.N ["_law_bag_here"] sc_l_odd.sc := ⟨rfl, rfl, rfl, by decide +kernel, rfl, by decide +kernel, by decide +kernel⟩
def bd_l_odd : List CS := [.asg (.name 1) (.call 23 (.cons (.var 0) (.cons (.lst (.cons (.lst .nil) (.cons (.tup .nil) (.cons (.con (.str "a")) (.cons (.dks true [] .nil) .nil))))) .nil))), .for_ (.name 2) (.range (.cons (.con (.int 11)) .nil)) [.asg (.name 1) (.ifx (.cmp .eq (.call 21 (.cons (.var 0) (.cons (.con (.int 2)) .nil))) (.con (.int 0))) (.lst (.cons (.var 1) .nil)) (.tup (.cons (.var 1) .nil)))], .asg (.name 3) (.lst (.cons (.con .non) (.cons (.con (.bl true)) (.cons (.con (.bl false)) (.cons (.con (.int 0)) (.cons (.con (.int 1)) (.cons (.op1 .neg (.con (.int 1))) (.cons (.op2 .pow (.con (.int 10)) (.con (.int 39))) (.cons (.con (.str "")) (.cons (.con (.str "a")) (.cons (.con (.str "A")) (.cons (.con (.str "ninesigns")) (.cons (.con (.str "a b")) (.cons (.con (.str "a\n")) (.cons (.lst .nil) (.cons (.tup .nil) (.cons (.dks true [] .nil) (.cons (.lst (.cons (.con (.str "a")) .nil)) (.cons (.tup (.cons (.con (.str "a")) .nil)) .nil))))))))))))))))))), .asg (.name 3) (.op2 .add (.var 3) (.lst (.cons (.tup (.cons (.con (.str "b")) (.cons (.con (.str "a")) .nil))) (.cons (.tup (.cons (.con (.str "a")) (.cons (.con (.str "a")) .nil))) (.cons (.tup (.cons (.con (.str "a")) (.cons (.con (.int 1)) .nil))) (.cons (.tup (.cons (.tup (.cons (.con (.str "a")) .nil)) .nil)) (.cons (.dks true ["a"] (.cons (.con (.str "b")) .nil)) (.cons (.dks true ["a"] (.cons (.tup .nil) .nil)) (.cons (.lst (.cons (.tup (.cons (.con (.str "a")) .nil)) (.cons (.tup .nil) .nil))) (.cons (.op2 .mul (.lst (.cons (.con (.int 0)) .nil)) (.con (.int 1900))) (.cons (.var 1) .nil))))))))))), .asg (.name 3) (.op2 .add (.var 3) (.lst (.cons (.tup (.cons (.con (.bl true)) .nil)) (.cons (.tup (.cons (.con (.bl false)) (.cons (.con (.bl true)) .nil))) (.cons (.tup (.cons (.con (.int 1)) .nil)) (.cons (.tup (.cons (.con (.int 0)) (.cons (.con (.int 1)) .nil))) (.cons (.lst (.cons (.con (.bl true)) .nil)) (.cons (.tup (.cons (.tup (.cons (.con (.bl true)) .nil)) (.cons (.lst .nil) .nil))) (.cons (.tup (.cons (.tup .nil) (.cons (.lst .nil) .nil))) (.cons (.tup (.cons (.tup .nil) (.cons (.tup .nil) .nil))) (.cons (.lst (.cons (.tup (.cons (.tup .nil) (.cons (.lst .nil) .nil))) .nil)) .nil))))))))))), .asg (.name 3) (.op2 .add (.var 3) (.lst (.cons (.tup (.cons (.con (.str "on")) .nil)) (.cons (.tup (.cons (.con (.str "end")) .nil)) (.cons (.tup (.cons (.con (.str "leave")) (.cons (.con (.str "a")) .nil))) (.cons (.tup (.cons (.con (.str "raise")) (.cons (.con (.str "a")) .nil))) (.cons (.tup (.cons (.con (.str "stop")) (.cons (.con (.str "a")) .nil))) (.cons (.tup (.cons (.con (.str "out")) (.cons (.tup (.cons (.con (.str "end")) .nil)) .nil))) (.cons (.tup (.cons (.con (.str "round")) .nil)) .nil))))))))), .asg (.name 3) (.op2 .add (.var 3) (.lst (.cons (.tup (.cons (.con (.str "do")) (.cons (.con (.str "a")) .nil))) (.cons (.tup (.cons (.con (.str "do")) (.cons (.con (.str "a")) (.cons (.tup .nil) .nil)))) (.cons (.tup (.cons (.con (.str "mark")) (.cons (.con (.str "a")) .nil))) (.cons (.tup (.cons (.con (.str "mark")) (.cons (.con (.str "a")) (.cons (.con (.int 0)) .nil)))) (.cons (.tup (.cons (.con (.str "if")) (.cons (.con (.str "a")) (.cons (.tup .nil) (.cons (.tup .nil) .nil))))) .nil))))))), .asg (.name 3) (.op2 .add (.var 3) (.lst (.cons (.tup (.cons (.con (.str "ask")) (.cons (.con (.str "a")) (.cons (.con (.int 0)) (.cons (.con (.int 0)) .nil))))) (.cons (.tup (.cons (.con (.str "loop")) (.cons (.con (.str "a")) (.cons (.tup .nil) .nil)))) (.cons (.tup (.cons (.con (.str "try")) (.cons (.tup .nil) (.cons (.tup .nil) (.cons (.tup .nil) .nil))))) (.cons (.tup (.cons (.con (.str "call")) (.cons (.con (.str "a")) .nil))) (.cons (.tup (.cons (.con (.str "never")) (.cons (.tup (.cons (.tup (.cons (.con (.str "a")) (.cons (.con (.bl true)) .nil))) .nil)) .nil))) (.cons (.tup (.cons (.con (.str "never")) .nil)) (.cons (.con (.str "on")) .nil))))))))), .ret (.call 23 (.cons (.var 0) (.cons (.var 3) .nil)))]
theorem ck_l_odd : chkB sc_l_odd bd_l_odd (defBody st_l_odd) = true := by decide +kernel
def dd_l_odd : He.DefD := ⟨("_law_odd", none), "_law_odd", "_law_odd", defArgs st_l_odd, defBody st_l_odd, defScope st_l_odd, [], []⟩
abbrev st_l_text : Stmt := top 36
def sc_l_text : SC := { N := ["_law_lines", "_law_line"], sc := defScope st_l_text, fnm := fun _ => true, n := 26, fn := fun k => fnNames.getD k "", ng := 5, gl := fun k => glNames.getD k "", gd := false, fg := fun k => fnGd.getD k false, nx := 0, xf := fun k => xfNames.getD k "", ex := false, rs := false, nr := "", hd := none, ngd := 1, gdn := fun k => gdNames.getD k "" }
theorem fs_l_text : FnScope sc_l_text.N ["_law_lines"] sc_l_text.sc := ⟨rfl, rfl, rfl, by decide +kernel, rfl, by decide +kernel, by decide +kernel⟩
def bd_l_text : List CS := [.ret (.join (.con (.str "")) (.comp [1] (.name 1) (.seq (.var 0)) .none (.op2 .add (.var 1) (.con (.str "\n")))))]
theorem ck_l_text : chkB sc_l_text bd_l_text (defBody st_l_text) = true := by decide +kernel
def dd_l_text : He.DefD := ⟨("_law_text", none), "_law_text", "_law_text", defArgs st_l_text, defBody st_l_text, defScope st_l_text, [], []⟩
abbrev st_l_words_menu : Stmt := top 37
def sc_l_words_menu : SC := { N := ["_law_words"], sc := defScope st_l_words_menu, fnm := fun _ => true, n := 27, fn := fun k => fnNames.getD k "", ng := 5, gl := fun k => glNames.getD k "", gd := false, fg := fun k => fnGd.getD k false, nx := 0, xf := fun k => xfNames.getD k "", ex := false, rs := false, nr := "", hd := none, ngd := 1, gdn := fun k => gdNames.getD k "" }
theorem fs_l_words_menu : FnScope sc_l_words_menu.N [] sc_l_words_menu.sc := ⟨rfl, rfl, rfl, by decide +kernel, rfl, by decide +kernel, by decide +kernel⟩
def bd_l_words_menu : List CS := [.asg (.name 0) (.con (.str "do of case end if else loop block leave again raise stop try catch")), .ret (.meth .split (.op2 .add (.var 0) (.con (.str " always mark call program procedure a zz"))) (.con (.str " ")))]
theorem ck_l_words_menu : chkB sc_l_words_menu bd_l_words_menu (defBody st_l_words_menu) = true := by decide +kernel
def dd_l_words_menu : He.DefD := ⟨("_law_words_menu", none), "_law_words_menu", "_law_words_menu", defArgs st_l_words_menu, defBody st_l_words_menu, defScope st_l_words_menu, [], []⟩
abbrev st_l_line_spoilt : Stmt := top 38
def sc_l_line_spoilt : SC := { N := ["_law_bag_here", "_law_line", "_law_at", "_law_words", "_law_way"], sc := defScope st_l_line_spoilt, fnm := fun _ => true, n := 28, fn := fun k => fnNames.getD k "", ng := 5, gl := fun k => glNames.getD k "", gd := false, fg := fun k => fnGd.getD k false, nx := 0, xf := fun k => xfNames.getD k "", ex := false, rs := false, nr := "", hd := none, ngd := 1, gdn := fun k => gdNames.getD k "" }
theorem fs_l_line_spoilt : FnScope sc_l_line_spoilt.N ["_law_bag_here", "_law_line"] sc_l_line_spoilt.sc := ⟨rfl, rfl, rfl, by decide +kernel, rfl, by decide +kernel, by decide +kernel⟩
def bd_l_line_spoilt : List CS := [.par 3 4 (.meth .split (.var 1) (.con (.str " "))) (.call 21 (.cons (.var 0) (.cons (.con (.int 9)) .nil))), .asg (.name 2) (.call 21 (.cons (.var 0) (.cons (.bi .len (.cons (.var 3) .nil)) .nil))), .ite (.cmp .lt (.var 4) (.con (.int 3))) [.sub 3 (.var 2) (.ifx (.cmp .lt (.var 4) (.con (.int 2))) (.call 23 (.cons (.var 0) (.cons (.call 27 .nil) .nil))) (.upper (.op2 .ix (.var 3) (.var 2))))] [.ite (.cmp .eq (.var 4) (.con (.int 3))) [.expr (.mut .insert 3 (.cons (.var 2) (.cons (.call 23 (.cons (.var 0) (.cons (.call 27 .nil) .nil))) .nil)))] [.ite (.cmp .eq (.var 4) (.con (.int 4))) [.expr (.mut .popAt 3 (.cons (.var 2) .nil))] [.ite (.cmp .eq (.var 4) (.con (.int 5))) [.expr (.mut .append 3 (.cons (.con (.str "")) .nil))] [.ite (.cmp .eq (.var 4) (.con (.int 6))) [.sub 3 (.var 2) (.op2 .add (.op2 .ix (.var 3) (.var 2)) (.call 23 (.cons (.var 0) (.cons (.lst (.cons (.con (.str "a")) (.cons (.con (.str "A")) (.cons (.con (.str "1")) (.cons (.con (.str "=")) (.cons (.con (.str "-")) (.cons (.con (.str "_")) (.cons (.con (.str "zzzzzzzz")) .nil)))))))) .nil))))] [.ite (.cmp .eq (.var 4) (.con (.int 7))) [.ret (.slc (.var 1) .none (.some (.call 21 (.cons (.var 0) (.cons (.op2 .add (.bi .len (.cons (.var 1) .nil)) (.con (.int 1))) .nil)))))] []]]]]], .ret (.join (.con (.str " ")) (.var 3))]
theorem ck_l_line_spoilt : chkB sc_l_line_spoilt bd_l_line_spoilt (defBody st_l_line_spoilt) = true := by decide +kernel
def dd_l_line_spoilt : He.DefD := ⟨("_law_line_spoilt", none), "_law_line_spoilt", "_law_line_spoilt", defArgs st_l_line_spoilt, defBody st_l_line_spoilt, defScope st_l_line_spoilt, [], []⟩
abbrev st_l_drawn_lines : Stmt := top 39
def sc_l_drawn_lines : SC := { N := ["_law_bag_here", "_law_room", "_law_deep", "_law_singles", "_law_found", "_law_half", "_law_way", "_law_inner", "_law_cases", "_law_catches"], sc := defScope st_l_drawn_lines, fnm := fun _ => true, n := 30, fn := fun k => fnNames.getD k "", ng := 5, gl := fun k => glNames.getD k "", gd := false, fg := fun k => fnGd.getD k false, nx := 0, xf := fun k => xfNames.getD k "", ex := false, rs := false, nr := "", hd := none, ngd := 1, gdn := fun k => gdNames.getD k "" }
theorem fs_l_drawn_lines : FnScope sc_l_drawn_lines.N ["_law_bag_here", "_law_room", "_law_deep"] sc_l_drawn_lines.sc := ⟨rfl, rfl, rfl, by decide +kernel, rfl, by decide +kernel, by decide +kernel⟩
def bd_l_drawn_lines : List CS := [.par 4 5 (.lst .nil) (.op2 .fdiv (.bi .int (.cons (.var 1) .nil)) (.con (.int 2))), .asg (.name 3) (.lst (.cons (.con (.str "mark a")) (.cons (.con (.str "mark of")) (.cons (.con (.str "do s")) (.cons (.con (.str "do of")) (.cons (.con (.str "raise end")) (.cons (.con (.str "stop w")) (.cons (.con (.str "leave l")) (.cons (.con (.str "again l")) (.cons (.con (.str "call a")) .nil)))))))))), .while_ (.and (.cmp .lt (.bi .len (.cons (.var 4) .nil)) (.var 1)) (.cmp .gt (.call 21 (.cons (.var 0) (.cons (.con (.int 5)) .nil))) (.con (.int 0)))) [.asg (.name 6) (.ifx (.cmp .gt (.var 2) (.con (.int 0))) (.call 21 (.cons (.var 0) (.cons (.con (.int 9)) .nil))) (.con (.int 0))), .ite (.cmp .lt (.var 6) (.con (.int 4))) [.expr (.mut .append 4 (.cons (.call 23 (.cons (.var 0) (.cons (.var 3) .nil))) .nil)), .cont] [], .asg (.name 7) (.call 29 (.cons (.var 0) (.cons (.var 5) (.cons (.op2 .sub (.var 2) (.con (.int 1))) .nil)))), .ite (.cmp .lt (.var 6) (.con (.int 6))) [.asg (.name 4) (.op2 .add (.op2 .add (.var 4) (.lst (.cons (.call 23 (.cons (.var 0) (.cons (.lst (.cons (.con (.str "loop l")) (.cons (.con (.str "block l")) (.cons (.con (.str "loop end")) .nil)))) .nil))) .nil))) (.var 7))] [.ite (.cmp .eq (.var 6) (.con (.int 6))) [.asg (.name 4) (.op2 .add (.op2 .add (.op2 .add (.var 4) (.lst (.cons (.call 23 (.cons (.var 0) (.cons (.lst (.cons (.con (.str "if p")) (.cons (.con (.str "if end")) .nil))) .nil))) .nil))) (.var 7)) (.lst (.cons (.con (.str "else")) .nil))), .asg (.name 4) (.op2 .add (.var 4) (.call 29 (.cons (.var 0) (.cons (.var 5) (.cons (.op2 .sub (.var 2) (.con (.int 1))) .nil)))))] [.ite (.cmp .eq (.var 6) (.con (.int 7))) [.asg (.name 8) (.call 23 (.cons (.var 0) (.cons (.lst (.cons (.lst (.cons (.con (.str "case bad")) .nil)) (.cons (.lst (.cons (.con (.str "case ok")) .nil)) (.cons (.lst (.cons (.con (.str "case bad")) (.cons (.con (.str "mark a")) (.cons (.con (.str "case ok")) .nil)))) (.cons (.lst (.cons (.con (.str "case end")) .nil)) .nil))))) .nil))), .asg (.name 4) (.op2 .add (.op2 .add (.op2 .add (.var 4) (.lst (.cons (.call 23 (.cons (.var 0) (.cons (.lst (.cons (.con (.str "do s of")) (.cons (.con (.str "do of of")) .nil))) .nil))) .nil))) (.var 8)) (.var 7))] [.asg (.name 9) (.call 23 (.cons (.var 0) (.cons (.lst (.cons (.lst .nil) (.cons (.lst (.cons (.con (.str "catch")) .nil)) (.cons (.lst (.cons (.con (.str "catch e end")) .nil)) (.cons (.lst (.cons (.con (.str "catch end")) (.cons (.con (.str "mark w")) (.cons (.con (.str "catch")) .nil)))) .nil))))) .nil))), .asg (.name 4) (.op2 .add (.op2 .add (.op2 .add (.op2 .add (.var 4) (.lst (.cons (.con (.str "try")) .nil))) (.var 7)) (.var 9)) (.lst (.cons (.con (.str "always")) .nil))), .asg (.name 4) (.op2 .add (.var 4) (.call 29 (.cons (.var 0) (.cons (.op2 .fdiv (.bi .int (.cons (.var 5) .nil)) (.con (.int 2))) (.cons (.op2 .sub (.var 2) (.con (.int 1))) .nil)))))]]], .expr (.mut .append 4 (.cons (.con (.str "end")) .nil))], .ret (.var 4)]
theorem ck_l_drawn_lines : chkB sc_l_drawn_lines bd_l_drawn_lines (defBody st_l_drawn_lines) = true := by decide +kernel
def dd_l_drawn_lines : He.DefD := ⟨("_law_drawn_lines", none), "_law_drawn_lines", "_law_drawn_lines", defArgs st_l_drawn_lines, defBody st_l_drawn_lines, defScope st_l_drawn_lines, [], []⟩
abbrev st_l_kind : Stmt := top 40
def sc_l_kind : SC := { N := ["_law_line", "_law_words", "_law_named", "_law_kinds_here", "_law_word"], sc := defScope st_l_kind, fnm := fun _ => true, n := 30, fn := fun k => fnNames.getD k "", ng := 5, gl := fun k => glNames.getD k "", gd := false, fg := fun k => fnGd.getD k false, nx := 0, xf := fun k => xfNames.getD k "", ex := false, rs := false, nr := "", hd := none, ngd := 1, gdn := fun k => gdNames.getD k "" }
theorem fs_l_kind : FnScope sc_l_kind.N ["_law_line"] sc_l_kind.sc := ⟨rfl, rfl, rfl, by decide +kernel, rfl, by decide +kernel, by decide +kernel⟩
def bd_l_kind : List CS := [.asg (.name 1) (.meth .split (.var 0) (.con (.str " "))), .asg (.name 2) (.op2 .eq (.comp [4] (.name 4) (.seq (.slc (.var 1) (.some (.con (.int 1))) .none)) (.some (.not (.val (.call 24 (.cons (.var 4) .nil))))) (.var 4)) (.lst .nil)), .ite (.not (.val (.var 2))) [.ret (.con .non)] [], .ite (.and (.cmp .eq (.op2 .ix (.var 1) (.con (.int 0))) (.con (.str "do"))) (.and (.cmp .eq (.bi .len (.cons (.var 1) .nil)) (.con (.int 3))) (.cmp .eq (.op2 .ix (.var 1) (.con (.int 2))) (.con (.str "of"))))) [.ret (.con (.str "of"))] [], .ite (.cmp .eq (.op2 .ix (.var 1) (.con (.int 0))) (.con (.str "catch"))) [.ret (.con (.str "catch"))] [], .asg (.name 3) (.dks false ["loop", "block", "case", "if"] (.cons (.con (.str "open")) (.cons (.con (.str "open")) (.cons (.con (.str "case")) (.cons (.con (.str "if")) .nil))))), .for_ (.name 4) (.seq (.tup (.cons (.con (.str "do")) (.cons (.con (.str "mark")) (.cons (.con (.str "leave")) (.cons (.con (.str "again")) (.cons (.con (.str "raise")) (.cons (.con (.str "stop")) (.cons (.con (.str "call")) .nil))))))))) [.dset 3 (.var 4) (.con (.str "single"))], .ite (.cmp .eq (.bi .len (.cons (.var 1) .nil)) (.con (.int 2))) [.ret (.dget (.var 3) (.op2 .ix (.var 1) (.con (.int 0))))] [], .ret (.ifx (.cmp .isin (.var 0) (.tup (.cons (.con (.str "else")) (.cons (.con (.str "try")) (.cons (.con (.str "always")) (.cons (.con (.str "end")) .nil)))))) (.var 0) (.con .non))]
theorem ck_l_kind : chkB sc_l_kind bd_l_kind (defBody st_l_kind) = true := by decide +kernel
def dd_l_kind : He.DefD := ⟨("_law_kind", none), "_law_kind", "_law_kind", defArgs st_l_kind, defBody st_l_kind, defScope st_l_kind, [], []⟩
abbrev st_l_kinds : Stmt := top 41
def sc_l_kinds : SC := { N := ["_law_lines", "_law_line"], sc := defScope st_l_kinds, fnm := fun _ => true, n := 31, fn := fun k => fnNames.getD k "", ng := 5, gl := fun k => glNames.getD k "", gd := false, fg := fun k => fnGd.getD k false, nx := 0, xf := fun k => xfNames.getD k "", ex := false, rs := false, nr := "", hd := none, ngd := 1, gdn := fun k => gdNames.getD k "" }
theorem fs_l_kinds : FnScope sc_l_kinds.N ["_law_lines"] sc_l_kinds.sc := ⟨rfl, rfl, rfl, by decide +kernel, rfl, by decide +kernel, by decide +kernel⟩
def bd_l_kinds : List CS := [.ret (.comp [1] (.name 1) (.seq (.var 0)) .none (.call 30 (.cons (.var 1) .nil)))]
theorem ck_l_kinds : chkB sc_l_kinds bd_l_kinds (defBody st_l_kinds) = true := by decide +kernel
def dd_l_kinds : He.DefD := ⟨("_law_kinds", none), "_law_kinds", "_law_kinds", defArgs st_l_kinds, defBody st_l_kinds, defScope st_l_kinds, [], []⟩
abbrev st_l_close : Stmt := top 42
def sc_l_close : SC := { N := ["_law_kinds_here", "_law_stack", "_law_kind_here", "_law_top", "_law_next_ones"], sc := defScope st_l_close, fnm := fun _ => true, n := 32, fn := fun k => fnNames.getD k "", ng := 5, gl := fun k => glNames.getD k "", gd := false, fg := fun k => fnGd.getD k false, nx := 0, xf := fun k => xfNames.getD k "", ex := false, rs := false, nr := "", hd := none, ngd := 1, gdn := fun k => gdNames.getD k "" }
theorem fs_l_close : FnScope sc_l_close.N ["_law_kinds_here"] sc_l_close.sc := ⟨rfl, rfl, rfl, by decide +kernel, rfl, by decide +kernel, by decide +kernel⟩
def bd_l_close : List CS := [.asg (.name 1) (.lst .nil), .for_ (.name 2) (.seq (.var 0)) [.asg (.name 3) (.ifx (.cmp .ne (.var 1) (.lst .nil)) (.op2 .ix (.var 1) (.op1 .neg (.con (.int 1)))) (.con (.str "rows"))), .asg (.name 4) (.dks false ["if", "of", "case", "try"] (.cons (.lst (.cons (.con (.str "else")) .nil)) (.cons (.lst (.cons (.con (.str "case")) .nil)) (.cons (.lst (.cons (.con (.str "case")) .nil)) (.cons (.lst (.cons (.con (.str "catch")) (.cons (.con (.str "always")) .nil))) .nil))))), .dset 4 (.con (.str "catch")) (.lst (.cons (.con (.str "catch")) (.cons (.con (.str "always")) .nil))), .ite (.cmp .isin (.var 2) (.tup (.cons (.con (.str "single")) (.cons (.con (.str "open")) (.cons (.con (.str "if")) (.cons (.con (.str "of")) (.cons (.con (.str "try")) .nil))))))) [.ite (.cmp .eq (.var 3) (.con (.str "of"))) [.ret (.con (.bl false))] [], .asg (.name 1) (.op2 .add (.var 1) (.op2 .mul (.lst (.cons (.var 2) .nil)) (.bi .int (.cons (.op2 .ne (.var 2) (.con (.str "single"))) .nil))))] [.ite (.and (.cmp .eq (.var 2) (.con (.str "end"))) (.cmp .isin (.var 3) (.tup (.cons (.con (.str "open")) (.cons (.con (.str "else")) (.cons (.con (.str "of")) (.cons (.con (.str "case")) (.cons (.con (.str "always")) .nil)))))))) [.expr (.mut .pop 1 .nil)] [.ite (.cmp .isin (.var 2) (.dgetd (.var 4) (.var 3) (.lst .nil))) [.sub 1 (.op1 .neg (.con (.int 1))) (.var 2)] [.ret (.con (.bl false))]]]], .ret (.op2 .eq (.var 1) (.lst .nil))]
theorem ck_l_close : chkB sc_l_close bd_l_close (defBody st_l_close) = true := by decide +kernel
def dd_l_close : He.DefD := ⟨("_law_close", none), "_law_close", "_law_close", defArgs st_l_close, defBody st_l_close, defScope st_l_close, [], []⟩
abbrev st_l_mended : Stmt := top 43
def sc_l_mended : SC := { N := ["_law_lines", "_law_deeds", "_law_deed", "_law_found", "_law_at"], sc := defScope st_l_mended, fnm := fun _ => true, n := 33, fn := fun k => fnNames.getD k "", ng := 5, gl := fun k => glNames.getD k "", gd := false, fg := fun k => fnGd.getD k false, nx := 0, xf := fun k => xfNames.getD k "", ex := false, rs := false, nr := "", hd := none, ngd := 1, gdn := fun k => gdNames.getD k "" }
theorem fs_l_mended : FnScope sc_l_mended.N ["_law_lines", "_law_deeds"] sc_l_mended.sc := ⟨rfl, rfl, rfl, by decide +kernel, rfl, by decide +kernel, by decide +kernel⟩
def bd_l_mended : List CS := [.par 3 4 (.lst .nil) (.con (.int 0)), .for_ (.name 2) (.seq (.var 1)) [.ite (.cmp .isin (.var 2) (.tup (.cons (.con (.str "keep")) (.cons (.con (.str "strike")) .nil)))) [.ite (.cmp .eq (.var 4) (.bi .len (.cons (.var 0) .nil))) [.ret (.con .non)] [], .asg (.name 3) (.op2 .add (.var 3) (.op2 .mul (.lst (.cons (.op2 .ix (.var 0) (.var 4)) .nil)) (.bi .int (.cons (.op2 .eq (.var 2) (.con (.str "keep"))) .nil)))), .asg (.name 4) (.op2 .add (.var 4) (.con (.int 1)))] [.expr (.mut .append 3 (.cons (.var 2) .nil))]], .ret (.ifx (.cmp .eq (.var 4) (.bi .len (.cons (.var 0) .nil))) (.var 3) (.con .non))]
theorem ck_l_mended : chkB sc_l_mended bd_l_mended (defBody st_l_mended) = true := by decide +kernel
def dd_l_mended : He.DefD := ⟨("_law_mended", none), "_law_mended", "_law_mended", defArgs st_l_mended, defBody st_l_mended, defScope st_l_mended, [], []⟩
abbrev st_l_is_mend : Stmt := top 44
def sc_l_is_mend : SC := { N := ["_law_lines", "_law_thing", "_law_words", "_law_found", "_law_deed"], sc := defScope st_l_is_mend, fnm := fun _ => true, n := 34, fn := fun k => fnNames.getD k "", ng := 5, gl := fun k => glNames.getD k "", gd := false, fg := fun k => fnGd.getD k false, nx := 0, xf := fun k => xfNames.getD k "", ex := false, rs := false, nr := "", hd := none, ngd := 1, gdn := fun k => gdNames.getD k "" }
theorem fs_l_is_mend : FnScope sc_l_is_mend.N ["_law_lines", "_law_thing"] sc_l_is_mend.sc := ⟨rfl, rfl, rfl, by decide +kernel, rfl, by decide +kernel, by decide +kernel⟩
def bd_l_is_mend : List CS := [.asg (.name 2) (.tup (.cons (.con (.str "keep")) (.cons (.con (.str "strike")) (.cons (.con (.str "end")) (.cons (.con (.str "else")) (.cons (.con (.str "always")) .nil)))))), .ite (.not (.val (.bi .isi (.cons (.var 1) (.cons (.tyc "list") .nil))))) [.ret (.con (.bl false))] [], .ite (.cmp .ne (.comp [4] (.name 4) (.seq (.var 1)) (.some (.or (.not (.val (.bi .isi (.cons (.var 4) (.cons (.tyc "str") .nil))))) (.cmp .notin (.var 4) (.var 2)))) (.var 4)) (.lst .nil)) [.ret (.con (.bl false))] [], .asg (.name 3) (.call 33 (.cons (.var 0) (.cons (.var 1) .nil))), .ret (.and (.op2 .isnot (.var 3) (.con .non)) (.call 32 (.cons (.call 31 (.cons (.var 3) .nil)) .nil)))]
theorem ck_l_is_mend : chkB sc_l_is_mend bd_l_is_mend (defBody st_l_is_mend) = true := by decide +kernel
def dd_l_is_mend : He.DefD := ⟨("_law_is_mend", none), "_law_is_mend", "_law_is_mend", defArgs st_l_is_mend, defBody st_l_is_mend, defScope st_l_is_mend, [], []⟩
abbrev st_l_torn_lines : Stmt := top 45
def sc_l_torn_lines : SC := { N := ["_law_bag_here", "_law_most", "_law_found", "_law_k", "_law_line", "_law_at", "_law_way"], sc := defScope st_l_torn_lines, fnm := fun _ => true, n := 35, fn := fun k => fnNames.getD k "", ng := 5, gl := fun k => glNames.getD k "", gd := false, fg := fun k => fnGd.getD k false, nx := 0, xf := fun k => xfNames.getD k "", ex := false, rs := false, nr := "", hd := none, ngd := 1, gdn := fun k => gdNames.getD k "" }
theorem fs_l_torn_lines : FnScope sc_l_torn_lines.N ["_law_bag_here", "_law_most"] sc_l_torn_lines.sc := ⟨rfl, rfl, rfl, by decide +kernel, rfl, by decide +kernel, by decide +kernel⟩
def bd_l_torn_lines : List CS := [.asg (.name 2) (.slc (.call 29 (.cons (.var 0) (.cons (.op2 .add (.con (.int 2)) (.call 21 (.cons (.var 0) (.cons (.con (.int 5)) .nil)))) (.cons (.con (.int 2)) .nil)))) .none (.some (.var 1))), .for_ (.name 3) (.range (.cons (.call 21 (.cons (.var 0) (.cons (.con (.int 3)) .nil))) .nil)) [.par 5 6 (.call 21 (.cons (.var 0) (.cons (.op2 .add (.bi .len (.cons (.var 2) .nil)) (.con (.int 1))) .nil))) (.call 21 (.cons (.var 0) (.cons (.con (.int 4)) .nil))), .asg (.name 4) (.call 23 (.cons (.var 0) (.cons (.lst (.cons (.con (.str "end")) (.cons (.con (.str "else")) (.cons (.con (.str "always")) (.cons (.con (.str "catch")) (.cons (.con (.str "case a")) (.cons (.con (.str "try")) (.cons (.con (.str "zz")) (.cons (.con (.str "")) (.cons (.con (.str "loop")) (.cons (.con (.str "mark")) (.cons (.con (.str "mark a")) (.cons (.con (.str "do a b")) .nil))))))))))))) .nil))), .ite (.and (.cmp .eq (.var 6) (.con (.int 0))) (.cmp .lt (.bi .len (.cons (.var 2) .nil)) (.var 1))) [.expr (.mut .insert 2 (.cons (.var 5) (.cons (.var 4) .nil)))] [.ite (.and (.cmp .ne (.var 2) (.lst .nil)) (.cmp .eq (.var 6) (.con (.int 1)))) [.sub 2 (.op2 .mod (.var 5) (.bi .len (.cons (.var 2) .nil))) (.var 4)] [.ite (.cmp .ne (.var 2) (.lst .nil)) [.expr (.mut .popAt 2 (.cons (.op2 .mod (.var 5) (.bi .len (.cons (.var 2) .nil))) .nil))] []]]], .ret (.var 2)]
theorem ck_l_torn_lines : chkB sc_l_torn_lines bd_l_torn_lines (defBody st_l_torn_lines) = true := by decide +kernel
def dd_l_torn_lines : He.DefD := ⟨("_law_torn_lines", none), "_law_torn_lines", "_law_torn_lines", defArgs st_l_torn_lines, defBody st_l_torn_lines, defScope st_l_torn_lines, [], []⟩
abbrev st_l_chance : Stmt := top 46
def sc_l_chance : SC := { N := ["_law_bag_here", "_law_lines", "_law_found", "_law_line"], sc := defScope st_l_chance, fnm := fun _ => true, n := 36, fn := fun k => fnNames.getD k "", ng := 5, gl := fun k => glNames.getD k "", gd := false, fg := fun k => fnGd.getD k false, nx := 0, xf := fun k => xfNames.getD k "", ex := false, rs := false, nr := "", hd := none, ngd := 1, gdn := fun k => gdNames.getD k "" }
theorem fs_l_chance : FnScope sc_l_chance.N ["_law_bag_here", "_law_lines"] sc_l_chance.sc := ⟨rfl, rfl, rfl, by decide +kernel, rfl, by decide +kernel, by decide +kernel⟩
def bd_l_chance : List CS := [.asg (.name 2) (.lst .nil), .for_ (.name 3) (.seq (.var 1)) [.ite (.cmp .eq (.call 21 (.cons (.var 0) (.cons (.con (.int 6)) .nil))) (.con (.int 0))) [.expr (.mut .append 2 (.cons (.call 23 (.cons (.var 0) (.cons (.lst (.cons (.con (.str "end")) (.cons (.con (.str "else")) (.cons (.con (.str "always")) .nil)))) .nil))) .nil))] [], .expr (.mut .append 2 (.cons (.ifx (.cmp .eq (.call 21 (.cons (.var 0) (.cons (.con (.int 5)) .nil))) (.con (.int 0))) (.con (.str "strike")) (.con (.str "keep"))) .nil))], .ret (.op2 .add (.var 2) (.op2 .mul (.lst (.cons (.con (.str "end")) .nil)) (.call 21 (.cons (.var 0) (.cons (.con (.int 2)) .nil)))))]
theorem ck_l_chance : chkB sc_l_chance bd_l_chance (defBody st_l_chance) = true := by decide +kernel
def dd_l_chance : He.DefD := ⟨("_law_chance", none), "_law_chance", "_law_chance", defArgs st_l_chance, defBody st_l_chance, defScope st_l_chance, [], []⟩
abbrev st_l_otherwise : Stmt := top 47
def sc_l_otherwise : SC := { N := ["_law_bag_here", "_law_told", "_law_at", "_law_found", "_law_way"], sc := defScope st_l_otherwise, fnm := fun _ => true, n := 37, fn := fun k => fnNames.getD k "", ng := 5, gl := fun k => glNames.getD k "", gd := false, fg := fun k => fnGd.getD k false, nx := 0, xf := fun k => xfNames.getD k "", ex := false, rs := false, nr := "", hd := none, ngd := 1, gdn := fun k => gdNames.getD k "" }
theorem fs_l_otherwise : FnScope sc_l_otherwise.N ["_law_bag_here", "_law_told"] sc_l_otherwise.sc := ⟨rfl, rfl, rfl, by decide +kernel, rfl, by decide +kernel, by decide +kernel⟩
def bd_l_otherwise : List CS := [.par 3 4 (.bi .list (.cons (.var 1) .nil)) (.call 21 (.cons (.var 0) (.cons (.con (.int 7)) .nil))), .asg (.name 2) (.call 21 (.cons (.var 0) (.cons (.op2 .add (.bi .len (.cons (.var 3) .nil)) (.con (.int 1))) .nil))), .ite (.cmp .eq (.var 4) (.con (.int 0))) [.ret (.bi .tuple (.cons (.var 3) .nil))] [], .ite (.cmp .lt (.var 4) (.con (.int 3))) [.expr (.mut .insert 3 (.cons (.var 2) (.cons (.call 23 (.cons (.var 0) (.cons (.lst (.cons (.con (.str "end")) (.cons (.con (.str "else")) (.cons (.con (.str "always")) (.cons (.con (.str "keep")) (.cons (.con (.str "strike")) (.cons (.con (.str "End")) (.cons (.con .non) (.cons (.lst (.cons (.con (.str "end")) .nil)) .nil))))))))) .nil))) .nil)))] [.ite (.and (.cmp .ne (.var 3) (.lst .nil)) (.cmp .lt (.var 4) (.con (.int 5)))) [.sub 3 (.op2 .mod (.var 2) (.bi .len (.cons (.var 3) .nil))) (.call 23 (.cons (.var 0) (.cons (.lst (.cons (.con (.str "end")) (.cons (.con (.str "keep")) (.cons (.con (.str "strike")) (.cons (.con (.str "try")) (.cons (.con (.int 0)) (.cons (.con (.str "else")) (.cons (.dks true [] .nil) .nil)))))))) .nil)))] [.ite (.cmp .ne (.var 3) (.lst .nil)) [.expr (.mut .popAt 3 (.cons (.op2 .mod (.var 2) (.bi .len (.cons (.var 3) .nil))) .nil))] []]], .ret (.var 3)]
theorem ck_l_otherwise : chkB sc_l_otherwise bd_l_otherwise (defBody st_l_otherwise) = true := by decide +kernel
def dd_l_otherwise : He.DefD := ⟨("_law_otherwise", none), "_law_otherwise", "_law_otherwise", defArgs st_l_otherwise, defBody st_l_otherwise, defScope st_l_otherwise, [], []⟩
abbrev st_l_mend_right : Stmt := top 48
def sc_l_mend_right : SC := { N := ["_law_text_here", "_law_lines", "_law_thing", "_law_made", "_law_price", "_law_kept", "_law_due", "_law_deed"], sc := defScope st_l_mend_right, fnm := fun _ => true, n := 38, fn := fun k => fnNames.getD k "", ng := 5, gl := fun k => glNames.getD k "", gd := true, fg := fun k => fnGd.getD k false, nx := 0, xf := fun k => xfNames.getD k "", ex := false, rs := false, nr := "", hd := none, ngd := 1, gdn := fun k => gdNames.getD k "" }
theorem fs_l_mend_right : FnScope sc_l_mend_right.N ["_law_text_here", "_law_lines", "_law_thing"] sc_l_mend_right.sc := ⟨rfl, rfl, rfl, by decide +kernel, rfl, by decide +kernel, by decide +kernel⟩
def bd_l_mend_right : List CS := [.par 5 6 (.bi .repr (.cons (.var 2) .nil)) (.call 34 (.cons (.var 1) (.cons (.var 2) .nil))), .ite (.not (.val (.call 22 (.cons (.lst (.cons (.call 17 (.cons (.var 0) (.cons (.var 2) .nil))) (.cons (.call 17 (.cons (.var 0) (.cons (.var 2) .nil))) (.cons (.bi .repr (.cons (.var 2) .nil)) .nil)))) (.cons (.lst (.cons (.var 6) (.cons (.var 6) (.cons (.var 5) .nil)))) .nil))))) [.ret (.con (.bl false))] [], .ite (.not (.val (.var 6))) [.ret (.con (.bl true))] [], .asg (.name 3) (.call 19 (.cons (.var 0) (.cons (.var 2) .nil))), .asg (.name 4) (.bi .len (.cons (.comp [7] (.name 7) (.seq (.var 2)) (.some (.cmp .ne (.var 7) (.con (.str "keep")))) (.var 7)) .nil)), .ret (.call 22 (.cons (.lst (.cons (.call 18 (.cons (.var 2) .nil)) (.cons (.var 3) (.cons (.call 15 (.cons (.var 3) .nil)) .nil)))) (.cons (.lst (.cons (.var 4) (.cons (.call 26 (.cons (.call 33 (.cons (.var 1) (.cons (.var 2) .nil))) .nil)) (.cons (.con (.bl true)) .nil)))) .nil)))]
theorem ck_l_mend_right : chkB sc_l_mend_right bd_l_mend_right (defBody st_l_mend_right) = true := by decide +kernel
def dd_l_mend_right : He.DefD := ⟨("_law_mend_right", none), "_law_mend_right", "_law_mend_right", defArgs st_l_mend_right, defBody st_l_mend_right, defScope st_l_mend_right, [], []⟩
abbrev st_l_text_right : Stmt := top 49
def sc_l_text_right : SC := { N := ["_law_bag_here", "_law_lines", "_law_again", "_law_chance_here", "_law_things", "_law_text_here", "_law_kinds_here", "_law_told", "_law_whole", "_law_deed", "_law_thing", "_law_line"], sc := defScope st_l_text_right, fnm := fun _ => true, n := 39, fn := fun k => fnNames.getD k "", ng := 5, gl := fun k => glNames.getD k "", gd := true, fg := fun k => fnGd.getD k false, nx := 0, xf := fun k => xfNames.getD k "", ex := false, rs := false, nr := "", hd := none, ngd := 1, gdn := fun k => gdNames.getD k "" }
theorem fs_l_text_right : FnScope sc_l_text_right.N ["_law_bag_here", "_law_lines"] sc_l_text_right.sc := ⟨rfl, rfl, rfl, by decide +kernel, rfl, by decide +kernel, by decide +kernel⟩
def bd_l_text_right : List CS := [.par 5 6 (.call 26 (.cons (.var 1) .nil)) (.call 31 (.cons (.var 1) .nil)), .ite (.or (.not (.val (.call 22 (.cons (.comp [11] (.name 11) (.seq (.var 1)) .none (.call 2 (.cons (.var 11) .nil))) (.cons (.var 6) .nil))))) (.not (.val (.call 22 (.cons (.call 15 (.cons (.var 5) .nil)) (.cons (.call 32 (.cons (.var 6) .nil)) .nil)))))) [.ret (.con (.bl false))] [], .for_ (.name 2) (.range (.cons (.con (.int 2)) .nil)) [.asg (.name 7) (.call 12 (.cons (.var 5) .nil)), .ite (.or (.not (.val (.call 34 (.cons (.var 1) (.cons (.var 7) .nil))))) (.cmp .ne (.call 18 (.cons (.var 7) .nil)) (.call 10 (.cons (.var 5) .nil)))) [.ret (.con (.bl false))] [], .asg (.name 8) (.cpy 9 7), .expr (.mut .append 7 (.cons (.con (.str "keep")) .nil))], .asg (.name 3) (.call 36 (.cons (.var 0) (.cons (.var 1) .nil))), .asg (.name 4) (.lst (.cons (.var 8) (.cons (.var 3) (.cons (.op2 .mul (.lst (.cons (.con (.str "keep")) .nil)) (.bi .len (.cons (.var 1) .nil))) (.cons (.call 37 (.cons (.var 0) (.cons (.var 8) .nil))) (.cons (.call 37 (.cons (.var 0) (.cons (.var 8) .nil))) (.cons (.call 25 (.cons (.var 0) .nil)) .nil))))))), .ret (.op2 .eq (.comp [10] (.name 10) (.seq (.var 4)) (.some (.not (.val (.call 38 (.cons (.var 5) (.cons (.var 1) (.cons (.var 10) .nil))))))) (.var 10)) (.lst .nil))]
theorem ck_l_text_right : chkB sc_l_text_right bd_l_text_right (defBody st_l_text_right) = true := by decide +kernel
def dd_l_text_right : He.DefD := ⟨("_law_text_right", none), "_law_text_right", "_law_text_right", defArgs st_l_text_right, defBody st_l_text_right, defScope st_l_text_right, [], []⟩
abbrev st_l_odd_kinds_right : Stmt := top 50
def sc_l_odd_kinds_right : SC := { N := ["_law_bag_here", "_law_lines", "_law_line", "_law_odd_here"], sc := defScope st_l_odd_kinds_right, fnm := fun _ => true, n := 40, fn := fun k => fnNames.getD k "", ng := 5, gl := fun k => glNames.getD k "", gd := true, fg := fun k => fnGd.getD k false, nx := 0, xf := fun k => xfNames.getD k "", ex := false, rs := false, nr := "", hd := none, ngd := 1, gdn := fun k => gdNames.getD k "" }
theorem fs_l_odd_kinds_right : FnScope sc_l_odd_kinds_right.N ["_law_bag_here", "_law_lines"] sc_l_odd_kinds_right.sc := ⟨rfl, rfl, rfl, by decide +kernel, rfl, by decide +kernel, by decide +kernel⟩
def bd_l_odd_kinds_right : List CS := [.for_ (.name 2) (.seq (.slc (.comp [2] (.name 2) (.seq (.var 1)) (.some (.cmp .ne (.slc (.var 2) .none (.some (.con (.int 5)))) (.con (.str "catch")))) (.var 2)) .none (.some (.con (.int 4))))) [.asg (.name 3) (.call 28 (.cons (.var 0) (.cons (.var 2) .nil))), .ite (.and (.cmp .ne (.slc (.var 3) .none (.some (.con (.int 5)))) (.con (.str "catch"))) (.not (.val (.call 22 (.cons (.lst (.cons (.call 2 (.cons (.var 3) .nil)) (.cons (.call 2 (.cons (.var 3) .nil)) .nil))) (.cons (.op2 .mul (.lst (.cons (.call 30 (.cons (.var 3) .nil)) .nil)) (.con (.int 2))) .nil)))))) [.ret (.con (.bl false))] []], .ret (.con (.bl true))]
theorem ck_l_odd_kinds_right : chkB sc_l_odd_kinds_right bd_l_odd_kinds_right (defBody st_l_odd_kinds_right) = true := by decide +kernel
def dd_l_odd_kinds_right : He.DefD := ⟨("_law_odd_kinds_right", none), "_law_odd_kinds_right", "_law_odd_kinds_right", defArgs st_l_odd_kinds_right, defBody st_l_odd_kinds_right, defScope st_l_odd_kinds_right, [], []⟩
abbrev st_law : Stmt := top 51
def sc_law : SC := { N := ["_law_script", "_law_bag_here", "_law_turn", "_law_lines", "_law_plain", "_law_odd_here", "_law_line"], sc := defScope st_law, fnm := fun _ => true, n := 41, fn := fun k => fnNames.getD k "", ng := 5, gl := fun k => glNames.getD k "", gd := true, fg := fun k => fnGd.getD k false, nx := 0, xf := fun k => xfNames.getD k "", ex := false, rs := false, nr := "", hd := none, ngd := 1, gdn := fun k => gdNames.getD k "" }
theorem fs_law : FnScope sc_law.N ["_law_script"] sc_law.sc := ⟨rfl, rfl, rfl, by decide +kernel, rfl, by decide +kernel, by decide +kernel⟩
def bd_law : List CS := [.for_ (.name 2) (.range (.cons (.con (.int 4)) .nil)) [.asg (.name 3) (.call 35 (.cons (.var 1) (.cons (.con (.int 10)) .nil))), .asg (.name 4) (.comp [6] (.name 6) (.seq (.var 3)) (.some (.cmp .ne (.slc (.var 6) .none (.some (.con (.int 5)))) (.con (.str "catch")))) (.var 6)), .asg (.name 5) (.ifx (.and (.cmp .ne (.var 4) (.lst .nil)) (.cmp .eq (.call 21 (.cons (.var 1) (.cons (.con (.int 2)) .nil))) (.con (.int 0)))) (.call 28 (.cons (.var 1) (.cons (.op2 .ix (.var 4) (.con (.int 0))) .nil))) (.con (.str "end"))), .asg (.name 3) (.op2 .add (.var 3) (.op2 .mul (.lst (.cons (.var 5) .nil)) (.bi .int (.cons (.op2 .ne (.slc (.var 5) .none (.some (.con (.int 5)))) (.con (.str "catch"))) .nil)))), .ite (.or (.not (.val (.call 39 (.cons (.var 1) (.cons (.var 3) .nil))))) (.not (.val (.call 40 (.cons (.var 1) (.cons (.var 3) .nil)))))) [.ret (.con (.bl false))] []], .ret (.and (.call 39 (.cons (.var 1) (.cons (.lst .nil) .nil))) (.and (.op2 .eq (.call 2 (.cons (.con (.str "do of")) .nil)) (.con (.str "single"))) (.op2 .eq (.call 2 (.cons (.con (.str "do of of")) .nil)) (.con (.str "of")))))]
theorem ck_law : chkB sc_law bd_law (defBody st_law).tail = true := by decide +kernel
def dd_law : He.DefD := ⟨("law", none), "law", "law", defArgs st_law, defBody st_law, defScope st_law, [], []⟩
def fns : List He.DefD := ([dd_is_name, dd_joined, dd_kind_of, dd_kinds_of, dd_ends_here, dd_turns_here, dd_blocks_here, dd_bounds, dd_keys_of, dd_floor, dd_fewest, dd_told_by, dd_mend, dd_closing, dd_close, dd_closes, dd_lines_left, dd_is_mend, dd_cost, dd_mended] : List He.DefD) ++ ([dd_l_bag, dd_l_take, dd_l_alike, dd_l_one, dd_l_is_name, dd_l_odd, dd_l_text, dd_l_words_menu, dd_l_line_spoilt, dd_l_drawn_lines, dd_l_kind, dd_l_kinds, dd_l_close, dd_l_mended, dd_l_is_mend, dd_l_torn_lines, dd_l_chance, dd_l_otherwise, dd_l_mend_right, dd_l_text_right] : List He.DefD) ++ ([dd_l_odd_kinds_right, dd_law] : List He.DefD)
def fas0 : List He.Fa := ([.glo "is_name", .glo "joined", .glo "kind_of", .glo "kinds_of", .glo "ends_here", .glo "turns_here", .glo "blocks_here", .glo "bounds", .glo "keys_of", .glo "floor", .glo "fewest", .glo "told_by", .glo "mend", .glo "closing", .glo "close", .glo "closes", .glo "lines_left", .glo "is_mend", .glo "cost", .glo "mended"] : List He.Fa) ++ ([.glo "_law_bag", .glo "_law_take", .glo "_law_alike", .glo "_law_one", .glo "_law_is_name", .glo "_law_odd", .glo "_law_text", .glo "_law_words_menu", .glo "_law_line_spoilt", .glo "_law_drawn_lines", .glo "_law_kind", .glo "_law_kinds", .glo "_law_close", .glo "_law_mended", .glo "_law_is_mend", .glo "_law_torn_lines", .glo "_law_chance", .glo "_law_otherwise", .glo "_law_mend_right", .glo "_law_text_right"] : List He.Fa) ++ ([.glo "_law_odd_kinds_right", .glo "law"] : List He.Fa)
def fas1 : List He.Fa := [.int "LONGEST" 8, .str "LETTERS" "abcdefghijklmnopqrstuvwxyz", .glo "SINGLES", .glo "PARTS", .glo "PUT", .glo "INNER"]
def fas : List He.Fa := fas0 ++ (fas1 ++ bnames.map .free)
def tf : List He.Defn := []
-- raising: ; families: ['told_by']; ['closing']; ['_law_drawn_lines']
-- order: 0 is_name, 1 joined, 2 kind_of, 3 kinds_of, 4 ends_here, 5 turns_here, 6 blocks_here, 7 bounds, 8 keys_of, 9 floor, 10 fewest, 11 told_by, 12 mend, 13 closing, 14 close, 15 closes, 16 lines_left, 17 is_mend, 18 cost, 19 mended, 20 _law_bag, 21 _law_take, 22 _law_alike, 23 _law_one, 24 _law_is_name, 25 _law_odd, 26 _law_text, 27 _law_words_menu, 28 _law_line_spoilt, 29 _law_drawn_lines, 30 _law_kind, 31 _law_kinds, 32 _law_close, 33 _law_mended, 34 _law_is_mend, 35 _law_torn_lines, 36 _law_chance, 37 _law_otherwise, 38 _law_mend_right, 39 _law_text_right, 40 _law_odd_kinds_right, 41 law
def loose0 : List PySem.Str := ["is_name", "joined", "kind_of", "kinds_of", "ends_here", "turns_here", "blocks_here", "bounds", "keys_of", "floor", "fewest", "told_by", "mend", "closing", "close", "closes", "lines_left", "is_mend", "cost", "mended", "_law_bag", "_law_take", "_law_alike", "_law_one", "_law_is_name", "_law_odd", "_law_text", "_law_words_menu", "_law_line_spoilt", "_law_drawn_lines"]
def loose1 : List PySem.Str := ["_law_kind", "_law_kinds", "_law_close", "_law_mended", "_law_is_mend", "_law_torn_lines", "_law_chance", "_law_otherwise", "_law_mend_right", "_law_text_right", "_law_odd_kinds_right", "LETTERS", "LONGEST", "SINGLES", "INNER", "PARTS", "PUT"]
def loose : List PySem.Str := loose0 ++ loose1
abbrev Rw : PySem.W.OpenRow := PySem.W.OpenLaw.row PySem.Challenge.rw_fourfaces_k79_mends_judged
def ts : List He.Tab := [(fun K => He.ga K "INNER", ["open", "if", "of", "try"])]
def exB (K : PySem.W.Frag) : Bool := tupB K (He.ga K "SINGLES") ["do", "mark", "leave", "again", "raise", "stop", "call"] && tupB K (He.ga K "PARTS") ["always", "case", "else", "end", "first", "rows"] && tupB K (He.ga K "PUT") ["end", "else", "always"] && tabB K (He.ga K "INNER") [("open", "end"), ("if", "else"), ("of", "first"), ("try", "always")]
abbrev hk : PySem.W.Hook := hookG 4 fas fns ts exB
def ob (s : PySem.W.SharedT) : He.AlX × Bool := (He.obsX 4 fas fns ts [] exB (HandSHeadRun.getT s), isDictAt (HandSHeadRun.getT s) sysModules)
theorem ob_eq (s : PySem.W.SharedT) : ob s = hk.obs s.abs := by
  have e : HandSHeadRun.getT s = s.abs.heap.get? := funext (HandSHeadRun.getT_eq s)
  unfold ob
  rw [e]
  rfl
theorem run_false (w : World) : HandSHeadRun.RunEq Rw (PySem.W.view Rw.prog [51]) hk ob 7120 loose (w.withFollow "special-get-raises" false) := by
  intro os
  kernel_rfl
theorem run_true (w : World) : HandSHeadRun.RunEq Rw (PySem.W.view Rw.prog [51]) hk ob 7120 loose (w.withFollow "special-get-raises" true) := by
  intro os
  kernel_rfl
theorem run (w : World) : HandSHeadRun.RunEq Rw (PySem.W.view Rw.prog [51]) hk ob 7120 loose w := PySem.W.byRow2 "special-get-raises" (P := fun w => HandSHeadRun.RunEq Rw (PySem.W.view Rw.prog [51]) hk ob 7120 loose w) run_false run_true w
def lawAt : Nat := 51
end Tx

set_option Elab.async false
set_option linter.all false
set_option autoImplicit false
set_option maxRecDepth 100000
set_option maxHeartbeats 4000000
/-! K79a: helps; one of a list, any value; the law's own likeness. -/
namespace K79
open PySem PySem.Spec PyProof.Rows L2 DI
theorem compG' {α : Type} {step : D → Sta → (Option D → Sta → Prop) → Prop} {ρ : Sta} {Q : List D → Sta → Prop} (g f : α → D) : ∀ (xs : List α) (acc : List D), acc.length + xs.length < sizeLine → (∀ x ∈ xs, ∀ k : Option D → Sta → Prop, k (some (f x)) ρ → step (g x) ρ k) → Q (acc ++ xs.map f) ρ → compD step (xs.map g) acc ρ Q
  | [], acc, _, _, q => by simpa [compD] using q
  | x :: xs, acc, hl, hs, q => by
    simp only [List.length_cons] at hl
    refine ⟨by omega, hs x List.mem_cons_self _ (compG' g f xs (acc ++ [f x]) (by simp; omega) (fun y hy => hs y (List.mem_cons_of_mem _ hy)) ?_)⟩
    simpa using q
theorem compG {α : Type} {step : D → Sta → (Option D → Sta → Prop) → Prop} {ρ : Sta} {Q : List D → Sta → Prop} (g f : α → D) (xs : List α) (hl : xs.length < sizeLine) (hs : ∀ x ∈ xs, ∀ k : Option D → Sta → Prop, k (some (f x)) ρ → step (g x) ρ k) (q : Q (xs.map f) ρ) : compD step (xs.map g) [] ρ Q :=
  compG' g f xs [] (by simpa using hl) hs (by simpa using q)
theorem small {n : Nat} (h : n ≤ 100) : n < sizeLine := by rw [sizeLine_eq]; omega
theorem small' {n : Nat} (h : n ≤ 100) : n ≤ sizeLine := by rw [sizeLine_eq]; omega
theorem eqw {x y : Str} : eqD (.str x) (.str y) = decide (x = y) := eqD_str
theorem forX {step : D → Sta → En → Prop} {ds : List D} {E : En} {ρ : Sta} (I : Nat → Sta → Prop) (h0 : I 0 ρ)
    (hs : ∀ i d ρ (E2 : En), ds[i]? = some d → I i ρ → (∀ ρ, I (i + 1) ρ → E2.nx ρ) → (∀ r ρ, E.rt r ρ → E2.rt r ρ) → (∀ d ρ, E.xc d ρ → E2.xc d ρ) → step d ρ E2) (he : ∀ ρ, I ds.length ρ → E.nx ρ) :
    forD step ds ρ E := by
  induction ds generalizing I ρ with
  | nil => exact he ρ h0
  | cons d ds ih =>
    rw [forD]
    have go : ∀ ρ, I (0 + 1) ρ → forD step ds ρ E := fun ρ' h' => ih (fun i => I (i + 1)) h' (fun i d ρ E2 e h => hs (i + 1) d ρ E2 (by simpa using e) h) he
    exact hs 0 d ρ _ rfl h0 go (fun _ _ h => h) fun _ _ h => h
theorem cmp_nil : (D.lst []).cmp = true := by decide +kernel
theorem nil_eqOk (xs : List D) : eqOk (.lst xs) (.lst []) := by
  cases xs with
  | nil => exact .inr (.inl ⟨cmp_nil, cmp_nil⟩)
  | cons x xs => exact .inr (.inr (by show (x :: xs).length ≠ 0; simp))
theorem eqD_nil (xs : List D) : eqD (.lst xs) (.lst []) = xs.isEmpty := by
  rw [eqD_lst]
  cases xs <;> rfl
theorem compGf' {α : Type} {step : D → Sta → (Option D → Sta → Prop) → Prop} {ρ : Sta} {Q : List D → Sta → Prop} (g : α → D) (f : α → Option D) : ∀ (xs : List α) (acc : List D), acc.length + xs.length < sizeLine → (∀ x ∈ xs, ∀ k : Option D → Sta → Prop, k (f x) ρ → step (g x) ρ k) → Q (acc ++ xs.filterMap f) ρ → compD step (xs.map g) acc ρ Q
  | [], acc, _, _, q => by simpa [compD] using q
  | x :: xs, acc, hl, hs, q => by
    simp only [List.length_cons] at hl
    refine ⟨by omega, hs x List.mem_cons_self _ (compGf' g f xs (acc ++ (f x).toList) ?_ (fun y hy => hs y (List.mem_cons_of_mem _ hy)) ?_)⟩
    · rw [List.length_append]
      have : (f x).toList.length ≤ 1 := by cases f x <;> simp
      omega
    · cases e : f x with
      | none => simpa [e] using q
      | some y => simpa [e] using q
theorem compGf {α : Type} {step : D → Sta → (Option D → Sta → Prop) → Prop} {ρ : Sta} {Q : List D → Sta → Prop} (g : α → D) (f : α → Option D) (xs : List α) (hl : xs.length < sizeLine) (hs : ∀ x ∈ xs, ∀ k : Option D → Sta → Prop, k (f x) ρ → step (g x) ρ k) (q : Q (xs.filterMap f) ρ) : compD step (xs.map g) [] ρ Q :=
  compGf' g f xs [] (by simpa using hl) hs (by simpa using q)
/-- a comprehension that draws which items it takes -/
theorem compD' {α : Type} {step : D → Sta → (Option D → Sta → Prop) → Prop} {ρ : Sta} {Q : List D → Sta → Prop} (g : α → D) : ∀ (xs : List α) (acc : List D), acc.length + xs.length < sizeLine → (∀ x ∈ xs, ∀ k : Option D → Sta → Prop, k (some (g x)) ρ → k none ρ → step (g x) ρ k) → (∀ ys : List α, (∀ y ∈ ys, y ∈ xs) → ys.length ≤ xs.length → Q (acc ++ ys.map g) ρ) → compD step (xs.map g) acc ρ Q
  | [], acc, _, _, q => by simpa [compD] using q [] (fun _ h => h) (Nat.le_refl _)
  | x :: xs, acc, hl, hs, q => by
    simp only [List.length_cons] at hl
    refine ⟨by omega, hs x List.mem_cons_self _ (compD' g xs (acc ++ [g x]) (by simp; omega) (fun y hy => hs y (List.mem_cons_of_mem _ hy)) fun ys h1 h2 => ?_) (compD' g xs (acc ++ []) (by simp; omega) (fun y hy => hs y (List.mem_cons_of_mem _ hy)) fun ys h1 h2 => ?_)⟩
    · have := q (x :: ys) (fun y hy => by
        rcases List.mem_cons.mp hy with rfl | h
        · exact List.mem_cons_self
        · exact List.mem_cons_of_mem _ (h1 y h)) (by simp; omega)
      simpa using this
    · have := q ys (fun y hy => List.mem_cons_of_mem _ (h1 y hy)) (by simp; omega)
      simpa using this
theorem tup_cmp {xs : List D} {n : Nat} (h : ∀ d ∈ xs, CmpN n d) (hn : n < 64) : (D.tup xs).cmp = true := (CmpN.tup h).cmp hn
structure Gr (w m : Nat) (x : D) : Prop where
  g : gd 0 x = true
  w : wt x ≤ w
  d : dp x ≤ m
  k : x.keyed = true
  e : x.dep ≤ m
theorem Gr.mono {w m w' m' : Nat} {d : D} (h : Gr w m d) (h1 : w ≤ w') (h2 : m ≤ m') : Gr w' m' d := ⟨h.g, Nat.le_trans h.w h1, Nat.le_trans h.d h2, h.k, Nat.le_trans h.e h2⟩
theorem Gr.val {w m : Nat} {d : D} (h : Gr w m d) : Val 0 w m d := ⟨h.g, h.w, h.d⟩
theorem Gr.str {x : Str} {n : Nat} (h : PyData.strOk x = true) (hl : x.length ≤ n) : Gr (10 * n + 2) 0 (.str x) := ⟨h, by rw [wt]; omega, Nat.le_refl _, rfl, Nat.le_refl _⟩
structure GrA (w m : Nat) (x : List D) : Prop where
  g : gdA 0 x = true
  w : wtA x ≤ w
  d : dpA x ≤ m
  k : keyedA x = true
  e : depA x ≤ m
theorem GrA.nil {m : Nat} : GrA 0 m [] := ⟨rfl, Nat.le_refl _, Nat.zero_le _, rfl, Nat.zero_le _⟩
theorem GrA.cons {w m v : Nat} {x : D} {xs : List D} (h : Gr v m x) (hs : GrA w m xs) : GrA (v + 2 + w) m (x :: xs) := by
  obtain ⟨a1, a2, a3, a4, a5⟩ := h
  obtain ⟨b1, b2, b3, b4, b5⟩ := hs
  refine ⟨by rw [gdA, a1, b1]; rfl, by rw [wtA]; omega, by rw [dpA]; omega, by rw [keyedA, a4, b4]; rfl, by rw [depA]; omega⟩
theorem GrA.mono {w m w' m' : Nat} {d : List D} (h : GrA w m d) (h1 : w ≤ w') (h2 : m ≤ m') : GrA w' m' d := ⟨h.g, Nat.le_trans h.w h1, Nat.le_trans h.d h2, h.k, Nat.le_trans h.e h2⟩
theorem GrA.tup {w m : Nat} {d : List D} (h : GrA w m d) : Gr (w + 3) (m + 1) (.tup d) := by
  obtain ⟨b1, b2, b3, b4, b5⟩ := h
  exact ⟨by rw [gd]; exact b1, by rw [wt]; omega, by rw [dp]; omega, by rw [D.keyed]; exact b4, by rw [D.dep]; omega⟩
theorem GrA.lst {w m : Nat} {d : List D} (h : GrA w m d) : Gr (w + 3) (m + 1) (.lst d) := by
  obtain ⟨b1, b2, b3, b4, b5⟩ := h
  exact ⟨by rw [gd]; exact b1, by rw [wt]; omega, by rw [dp]; omega, by rw [D.keyed]; exact b4, by rw [D.dep]; omega⟩
theorem GrA.map {α : Type} {m : Nat} {f : α → D} {g : α → Nat} : ∀ {l : List α}, (∀ x ∈ l, Gr (g x) m (f x)) → GrA ((l.map fun x => g x + 2).sum) m (l.map f)
  | [], _ => GrA.nil
  | x :: l, h => by
    rw [List.map_cons, List.map_cons, List.sum_cons]
    exact GrA.cons (h x List.mem_cons_self) (GrA.map fun y hy => h y (List.mem_cons_of_mem _ hy))
theorem sum_const {α : Type} {g : α → Nat} {c : Nat} : ∀ {l : List α}, (∀ x ∈ l, g x ≤ c) → (l.map g).sum ≤ l.length * c
  | [], _ => by simp
  | x :: l, h => by
    rw [List.map_cons, List.sum_cons, List.length_cons, Nat.succ_mul]
    have := sum_const fun y hy => h y (List.mem_cons_of_mem x hy)
    have := h x List.mem_cons_self
    omega
theorem tyn_gd {d : D} (h : gd 0 d = true) : d.tyn.isSome = true := by
  cases d with
  | opq v => simp [gd] at h
  | dcn W k => simp [gd] at h
  | _ => rfl
theorem GrA.app {w v m : Nat} {xs ys : List D} (h : GrA w m xs) (h2 : GrA v m ys) : GrA (w + v) m (xs ++ ys) := by
  induction xs generalizing w with
  | nil => exact h2.mono (by omega) (Nat.le_refl _)
  | cons x xs ih =>
    obtain ⟨g, hw, hd, hk, he⟩ := h
    rw [gdA, Bool.and_eq_true] at g
    rw [wtA] at hw
    rw [dpA] at hd
    rw [keyedA, Bool.and_eq_true] at hk
    rw [depA] at he
    have h1 : Gr (wt x) m x := ⟨g.1, Nat.le_refl _, by omega, hk.1, by omega⟩
    have h3 : GrA (wtA xs) m xs := ⟨g.2, Nat.le_refl _, by omega, hk.2, by omega⟩
    exact (GrA.cons h1 (ih h3)).mono (by omega) (Nat.le_refl _)
theorem Gr.int {i : Int} {m : Nat} (h : i.natAbs ≤ 10 ^ 39) : Gr 60 m (.int i) := ⟨by rw [gd]; exact decide_eq_true (by omega), by rw [wt]; exact Nat.le_refl _, Nat.zero_le _, rfl, Nat.zero_le _⟩
theorem Gr.bl {x : Bool} {m : Nat} : Gr 60 m (.bl x) := ⟨rfl, by rw [wt]; decide, Nat.zero_le _, rfl, Nat.zero_le _⟩
section
variable {T : Tb} {β : Option Bag}
def oneSp : DSp := fun β ds Q => ∃ (b : Bag) (l : List D) (ld : D), β = some b ∧ ds = [.opq (.ref b.1), ld] ∧ (ld = .lst l ∨ ld = .tup l) ∧ l ≠ [] ∧ l.length < 2000 ∧ ∀ d ∈ l, Q (.fz d)
theorem one_mono (β : Option Bag) (ds : List D) (Q Q' : R → Prop) (f : ∀ r, Q r → Q' r) (h : oneSp β ds Q) : oneSp β ds Q' := by
  obtain ⟨b, l, ld, h1, h2, h3, h4, h5, h6⟩ := h
  exact ⟨b, l, ld, h1, h2, h3, h4, h5, fun d hd => f _ (h6 d hd)⟩
theorem one_ar (β : Option Bag) (ds : List D) (Q : R → Prop) (h : oneSp β ds Q) : ds.length = 2 := by
  obtain ⟨b, l, ld, _, rfl, _⟩ := h
  rfl
theorem one_ev (t21 : T.fn 21 = takeSp) {ds : List D} {Q : R → Prop} (h : oneSp β ds Q) : evB T Tx.bd_l_one (sta 2 ds β) (finE β Q) := by
  obtain ⟨b, l, ld, rfl, rfl, hl, hne, h1000, q⟩ := h
  have hpos := List.length_pos_iff.mpr hne
  rcases hl with rfl | rfl
  all_goals
    show evB T Tx.bd_l_one ⟨[.fz _, .fz _], some b⟩ _
    show T.fn 21 (some b) [.opq (.ref b.1), .int (l.length : Int)] _
    rw [t21]
    refine ⟨b, _, rfl, rfl, by omega, by omega, fun r r0 r1 => ?_⟩
    obtain ⟨j, rfl⟩ := Int.eq_ofNat_of_zero_le r0
    have hj : j < l.length := by omega
    refine Exists.intro _ (And.intro (atN (List.getElem?_eq_getElem hj)) ?_)
    exact ⟨rfl, q _ (List.getElem_mem hj)⟩
/-! ### mixed -/
/-- the law's own likeness, of the same data -/
def alSp : DSp := fun β ds Q => ∃ d : D, ds = [d, d] ∧ (d.same = true ∨ d.pf = true) ∧ d.shw = true ∧ Q (.fz (.bl true))
theorem al_mono (β : Option Bag) (ds : List D) (Q Q' : R → Prop) (f : ∀ r, Q r → Q' r) (h : alSp β ds Q) : alSp β ds Q' := by
  obtain ⟨d, h1, h2, h3, h4⟩ := h
  exact ⟨d, h1, h2, h3, f _ h4⟩
theorem al_ar (β : Option Bag) (ds : List D) (Q : R → Prop) (h : alSp β ds Q) : ds.length = 2 := by
  obtain ⟨d, rfl, _⟩ := h
  rfl
theorem eqD_self {d : D} (h : d.pf = true) : eqD d d = true := by
  cases d <;> first | (cases h; done) | skip
  · rfl
  · rw [eqD_bl, decide_eq_true rfl]
  · show (PyData.eqv (.int _) (.int _)) = true
    simp [PyData.eqv]
  · rw [eqD_str, decide_eq_true rfl]
theorem al_ev {ds : List D} {Q : R → Prop} (h : alSp β ds Q) : evB T Tx.bd_l_alike (sta 2 ds β) (finE β Q) := by
  obtain ⟨d, rfl, h1, h2, q⟩ := h
  show evB T Tx.bd_l_alike ⟨[.fz d, .fz d], β⟩ _
  rcases h1 with h1 | h1
  · refine Or.inr ⟨rfl, rfl, h1, ?_⟩
    refine And.intro h2 ?_
    refine And.intro h2 ?_
    refine Or.inl (And.intro (.inl ⟨rfl, rfl⟩) ?_)
    refine ⟨rfl, ?_⟩
    show Q (.fz (.bl (eqD (.str _) (.str _))))
    rw [eqD_str, decide_eq_true rfl]
    exact q
  · refine Or.inl (And.intro (.inl ⟨h1, h1⟩) ?_)
    show (if (eqD d d) = true then _ else _)
    rw [eqD_self h1]
    refine ifT ?_
    refine And.intro h2 ?_
    refine And.intro h2 ?_
    refine Or.inl (And.intro (.inl ⟨rfl, rfl⟩) ?_)
    refine ⟨rfl, ?_⟩
    show Q (.fz (.bl (eqD (.str _) (.str _))))
    rw [eqD_str, decide_eq_true rfl]
    exact q
def grB (d : D) : Bool := gd 0 d && decide (wt d ≤ 150000) && decide (dp d ≤ 20) && d.keyed && decide (d.dep ≤ 20)
theorem grB_ok {d : D} (h : grB d = true) : Gr 150000 20 d := by
  unfold grB at h
  rw [Bool.and_eq_true, Bool.and_eq_true, Bool.and_eq_true, Bool.and_eq_true, decide_eq_true_eq, decide_eq_true_eq, decide_eq_true_eq] at h
  exact ⟨h.1.1.1.1, h.1.1.1.2, h.1.1.2, h.1.2, h.2⟩
/-- a value that may be handed in -/
def Short (xs : List D) : Prop := xs.length ≤ 50 ∨ ∃ r, xs = .int 0 :: r ∧ r.length ≤ 2000
def OddV (d : D) : Prop := Gr 150000 20 d ∧ ∀ xs, d = .lst xs → Short xs
theorem oddV {d : D} (h : grB d = true) (h2 : ∀ xs, d = .lst xs → Short xs) : OddV d := ⟨grB_ok h, h2⟩
def shB : D → Bool
  | .lst xs => decide (xs.length ≤ 50)
  | _ => true
theorem oddB {d : D} (h : (grB d && shB d) = true) : OddV d := by
  rw [Bool.and_eq_true] at h
  refine oddV h.1 fun xs e => ?_
  subst e
  exact .inl (of_decide_eq_true h.2)
def oddSp : DSp := fun β ds Q => ∃ b : Bag, β = some b ∧ ds = [.opq (.ref b.1)] ∧ ∀ d, OddV d → Q (.fz d)
theorem odd_mono (β : Option Bag) (ds : List D) (Q Q' : R → Prop) (f : ∀ r, Q r → Q' r) (h : oddSp β ds Q) : oddSp β ds Q' := by
  obtain ⟨b, h1, h2, h3⟩ := h
  exact ⟨b, h1, h2, fun d hd => f _ (h3 d hd)⟩
theorem odd_ar (β : Option Bag) (ds : List D) (Q : R → Prop) (h : oddSp β ds Q) : ds.length = 1 := by
  obtain ⟨b, _, rfl, _⟩ := h
  rfl
theorem zeros_ok : grB (.lst (List.replicate (1900 : Int).toNat [D.int 0]).flatten) = true := by decide +kernel
theorem zeros_len : (List.replicate (1900 : Int).toNat [D.int 0]).flatten.length = 1900 := by decide +kernel
theorem zeros_cons : ∃ r, (List.replicate (1900 : Int).toNat [D.int 0]).flatten = .int 0 :: r ∧ r.length ≤ 2000 := by
  refine ⟨(List.replicate 1899 [D.int 0]).flatten, rfl, ?_⟩
  decide +kernel
theorem dci_ok (a : Addr) : grB (.dci a []) = true ∧ grB (.dci a [(.str "a", .str "b")]) = true ∧ grB (.dci a [(.str "a", .tup [])]) = true := by
  have h : gd 0 (.str "a") = true ∧ gd 0 (.str "b") = true ∧ isStr (.str "a") = true ∧ ndK [] = true ∧ ndK [(.str "a", .str "b")] = true ∧ ndK [(.str "a", .tup [])] = true ∧ ("a" : Str).length = 1 ∧ ("b" : Str).length = 1 := by decide +kernel
  obtain ⟨h1, h2, h3, h4, h5, h6, h7, h8⟩ := h
  refine ⟨?_, ?_, ?_⟩
  · simp [grB, gd, gdK, h4, wt, wtK, dp, dpK, D.keyed, D.dep]
  · simp only [grB, gd, gdK, wt, wtK, dp, dpK, D.keyed, D.dep]
    rw [gd] at h1 h2
    simp [h1, h2, h3, h5, h7, h8]
  · simp only [grB, gd, gdK, wt, wtK, dp, dpK, D.keyed, D.dep, gdA, wtA, dpA]
    rw [gd] at h1
    simp [h1, h3, h6, h7]
theorem odd_ev (t21 : T.fn 21 = takeSp) (t23 : T.fn 23 = oneSp) {ds : List D} {Q : R → Prop} (h : oddSp β ds Q) : evB T Tx.bd_l_odd (sta 4 ds β) (finE β Q) := by
  obtain ⟨b, rfl, rfl, q⟩ := h
  show evB T Tx.bd_l_odd ⟨[.fz (.opq (.ref b.1)), .un, .un, .un], some b⟩ _
  iterate 2 refine And.intro (by rw [sizeLine_eq]; simp) ?_
  refine And.intro rfl (And.intro (by simp) (ifT fun a0 => ?_))
  refine And.intro (by rw [sizeLine_eq]; simp) ?_
  show T.fn 23 (some b) [.opq (.ref b.1), .lst [.lst [], .tup [], .str "a", .dci a0 []]] _
  rw [t23]
  refine ⟨b, _, _, rfl, rfl, .inl rfl, by simp, by simp, fun d0 h0 => ?_⟩
  have v0 : Gr 100 2 d0 := by
    simp only [List.mem_cons, List.not_mem_nil, or_false] at h0
    rcases h0 with rfl | rfl | rfl | rfl
    · exact ⟨by decide +kernel, by decide +kernel, by decide +kernel, by decide +kernel, by decide +kernel⟩
    · exact ⟨by decide +kernel, by decide +kernel, by decide +kernel, by decide +kernel, by decide +kernel⟩
    · exact ⟨by decide +kernel, by decide +kernel, by decide +kernel, by decide +kernel, by decide +kernel⟩
    · have := (grB_ok (dci_ok a0).1).g
      exact ⟨this, by simp [wt, wtK], by simp [dp, dpK], rfl, by simp [D.dep]⟩
  refine ifS ?_
  refine And.intro (by decide) (And.intro (by decide) ?_)
  refine forI (fun i ρ => ∃ (m1 m2 : M) (d : D), ρ = ⟨[.fz (.opq (.ref b.1)), m1, m2, .un], some b⟩ ∧ (m1 = .fz d ∨ m1 = .ow d) ∧ Gr (100 + 5 * i) (2 + i) d ∧ ∀ xs, 0 < i → d = .lst xs → Short xs) ⟨.fz d0, .un, d0, rfl, .inl rfl, v0, fun _ h => by omega⟩ ?_ ?_
  · rintro i d _ E2 - ⟨m1, m2, x, rfl, hm, hv, _⟩ hn - - -
    have hl : Gr (100 + 5 * (i + 1)) (2 + (i + 1)) (.lst [x]) := (GrA.cons hv GrA.nil).lst.mono (by omega) (by omega)
    have ht : Gr (100 + 5 * (i + 1)) (2 + (i + 1)) (.tup [x]) := (GrA.cons hv GrA.nil).tup.mono (by omega) (by omega)
    rcases hm with rfl | rfl
    all_goals
      show T.fn 21 (some b) [.opq (.ref b.1), .int 2] _
      rw [t21]
      refine ⟨b, _, rfl, rfl, by omega, by omega, fun r r0 r1 => ?_⟩
      refine Or.inl (And.intro (.inl ⟨rfl, rfl⟩) ?_)
      refine ifB (fun h => ?_) fun h => ?_
      · refine And.intro (by rw [sizeLine_eq]; simp) ?_
        exact hn _ ⟨_, _, _, rfl, .inr rfl, hl, fun xs _ e => by cases e; exact .inl (by simp)⟩
      · refine And.intro (by rw [sizeLine_eq]; simp) ?_
        exact hn _ ⟨_, _, _, rfl, .inl rfl, ht, fun xs _ e => by cases e⟩
  · rintro _ ⟨m1, m2, x, rfl, hm, hv, hx⟩
    have hv : Gr (100 + 5 * (rangeD 0 11).length) (2 + (rangeD 0 11).length) x := hv
    have hx : ∀ xs, 0 < (rangeD 0 11).length → x = .lst xs → Short xs := hx
    rw [show (rangeD 0 11).length = 11 from rangeD_n (n := 11)] at hv hx
    have hv : OddV x := ⟨hv.mono (by decide) (by decide), fun xs => hx xs (by decide)⟩
    rcases hm with rfl | rfl
    all_goals
      refine And.intro ⟨by decide, by decide, by decide⟩ ?_
      iterate 2 refine And.intro (by rw [sizeLine_eq]; simp) ?_
      refine And.intro rfl (And.intro (by simp) (ifT fun a1 => ?_))
      repeat refine And.intro (by rw [sizeLine_eq]; simp) ?_
      refine And.intro rfl (And.intro (by simp) (ifT fun a2 => ?_))
      refine And.intro (by rw [sizeLine_eq]; simp) ?_
      refine And.intro rfl (And.intro (by simp) (ifT fun a3 => ?_))
      iterate 3 refine And.intro (by rw [sizeLine_eq]; simp) ?_
      refine And.intro (by rw [sizeLine_eq]; simp) ?_
      refine And.intro (by decide) (And.intro (by decide) (And.intro (by rw [sizeLine_eq]; decide) ?_))
      repeat refine And.intro (by rw [sizeLine_eq]; simp) ?_
      show T.fn 23 (some b) [.opq (.ref b.1), .lst _] _
      rw [t23]
      refine ⟨b, _, _, rfl, rfl, .inl rfl, by simp, by simp, fun d hd => ?_⟩
      refine ifS ⟨rfl, q d ?_⟩
      simp only [List.mem_append, List.mem_cons, List.not_mem_nil, or_false] at hd
      repeat' (revert hd; rw [or_imp]; refine And.intro (fun hd => ?_) (fun hd => ?_))
      all_goals
        subst hd
        first
          | exact hv
          | exact oddB (by decide +kernel)
          | exact oddV zeros_ok (fun xs e => by cases e; exact .inr zeros_cons)
          | exact oddV (dci_ok _).1 (fun xs e => by cases e)
          | exact oddV (dci_ok _).2.1 (fun xs e => by cases e)
          | exact oddV (dci_ok _).2.2 (fun xs e => by cases e)
end
end K79

set_option Elab.async false
set_option linter.all false
set_option autoImplicit false
set_option maxRecDepth 100000
set_option maxHeartbeats 4000000
/-! K79b: lines and texts. -/
namespace K79
open PySem PySem.Spec PyProof.Rows L2 DI
def okS (s : Str) : Bool := s.cps.toList.all fun c => decide (32 ≤ c) && decide (c ≤ 126)
structure Ln (n : Nat) (s : Str) : Prop where
  len : s.length ≤ n
  ok : okS s = true
theorem okS_iff {s : Str} : okS s = true ↔ ∀ c ∈ TL.tl s, 32 ≤ c ∧ c ≤ 126 := by
  unfold okS
  rw [List.all_eq_true]
  simp
theorem okS_str {s : Str} (h : okS s = true) : PyData.strOk s = true := by
  rw [okS_iff] at h
  unfold PyData.strOk
  rw [Array.all_eq_true_iff_forall_mem]
  intro c hc
  have := h c (Array.mem_toList_iff.mpr hc)
  simp
  omega
theorem okS_nl {s : Str} (h : okS s = true) : 10 ∉ TL.tl s := fun m => by
  have := okS_iff.mp h 10 m
  omega
theorem okS_app {a b : Str} (ha : okS a = true) (hb : okS b = true) : okS (a ++ b) = true := by
  rw [okS_iff] at *
  intro c hc
  rw [TL.tl_append, List.mem_append] at hc
  exact hc.elim (ha c) (hb c)
theorem len_app (a b : Str) : (a ++ b).length = a.length + b.length := by rw [TL.len_tl, TL.tl_append, List.length_append, TL.len_tl, TL.len_tl]
theorem mk_cons (c : Nat) (l : List Nat) : (⟨(c :: l).toArray⟩ : Str) = ⟨#[c]⟩ ++ ⟨l.toArray⟩ := TL.ext_tl (by rw [TL.tl_append]; rfl)
theorem upper_mk : ∀ (l : List Nat), (∀ c ∈ l, 32 ≤ c ∧ c ≤ 126) → ∀ c ∈ TL.tl (Txt.upper ⟨l.toArray⟩), 32 ≤ c ∧ c ≤ 126
  | [], _, c, hc => by
    have : (Txt.upper ⟨([] : List Nat).toArray⟩).length ≤ 3 * 0 := len_upper _
    have e : TL.tl (Txt.upper ⟨([] : List Nat).toArray⟩) = [] := List.eq_nil_of_length_eq_zero (by rw [← TL.len_tl]; omega)
    rw [e] at hc
    cases hc
  | x :: l, h, c, hc => by
    have hx := h x List.mem_cons_self
    rw [mk_cons, PySem.W.KOpn.upper_app, PySem.W.KOpn.upper_one (by omega), TL.tl_append, List.mem_append] at hc
    rcases hc with hc | hc
    · have hc : c ∈ [if 97 ≤ x ∧ x ≤ 122 then x - 32 else x] := hc
      rw [List.mem_singleton] at hc
      subst hc
      split <;> omega
    · exact upper_mk l (fun y hy => h y (List.mem_cons_of_mem _ hy)) c hc
theorem okS_upper {s : Str} (h : okS s = true) : okS (Txt.upper s) = true := by
  rw [okS_iff] at *
  have := upper_mk (TL.tl s) h
  rwa [TL.mk_tl] at this
/-! ### words -/
theorem spl_mem {S : List Nat} : ∀ {l acc p : List Nat} {k : Nat}, p ∈ TL.spl S k acc l → (∀ c ∈ p, c ∈ acc ∨ c ∈ l) ∧ p.length ≤ acc.length + l.length
  | [], acc, p, k, h => by
    rw [TL.spl_nil, List.mem_singleton] at h
    subst h
    exact ⟨fun c hc => .inl hc, by simp⟩
  | c :: r, acc, p, 0, h => by
    by_cases hp : TL.pre S (c :: r) = true
    · rw [TL.spl_hit hp, List.mem_cons] at h
      rcases h with rfl | h
      · exact ⟨fun c hc => .inl hc, by simp⟩
      · obtain ⟨q1, q2⟩ := spl_mem h
        refine ⟨fun x hx => ?_, ?_⟩
        · rcases q1 x hx with h | h
          · cases h
          · exact .inr (List.mem_cons_of_mem _ h)
        · simp only [List.length_nil, List.length_cons] at q2 ⊢
          omega
    · rw [TL.spl_miss (by simpa using hp)] at h
      obtain ⟨q1, q2⟩ := spl_mem h
      refine ⟨fun x hx => ?_, ?_⟩
      · rcases q1 x hx with h | h
        · rcases List.mem_append.mp h with h | h
          · exact .inl h
          · exact .inr (List.mem_cons.mpr (.inl (List.mem_singleton.mp h)))
        · exact .inr (List.mem_cons_of_mem _ h)
      · simp only [List.length_append, List.length_nil, List.length_cons] at q2 ⊢
        omega
  | c :: r, acc, p, k + 1, h => by
    have h : p ∈ TL.spl S k acc r := h
    obtain ⟨q1, q2⟩ := spl_mem h
    refine ⟨fun x hx => (q1 x hx).imp id fun h => List.mem_cons_of_mem _ h, ?_⟩
    simp only [List.length_cons] at q2 ⊢
    omega
theorem spl_ne {S : List Nat} : ∀ {l acc : List Nat} {k : Nat}, TL.spl S k acc l ≠ []
  | [], acc, k => by rw [TL.spl_nil]; simp
  | c :: r, acc, 0 => by
    by_cases hp : TL.pre S (c :: r) = true
    · rw [TL.spl_hit hp]; simp
    · rw [TL.spl_miss (by simpa using hp)]; exact spl_ne
  | c :: r, acc, k + 1 => by
    show TL.spl S k acc r ≠ []
    exact spl_ne
def wds (s : Str) : List Str := Txt.split s " "
theorem wds_tl (s : Str) : (wds s).map TL.tl = TL.spl [32] 0 [] (TL.tl s) := TL.split_spl s " " (by decide +kernel) (TL.kind_ok (by decide +kernel))
theorem wds_ne (s : Str) : wds s ≠ [] := fun e => by
  have := wds_tl s
  rw [e] at this
  exact spl_ne this.symm
theorem wds_mem {s w : Str} (h : w ∈ wds s) : (okS s = true → okS w = true) ∧ w.length ≤ s.length := by
  have : TL.tl w ∈ TL.spl [32] 0 [] (TL.tl s) := wds_tl s ▸ List.mem_map_of_mem h
  obtain ⟨q1, q2⟩ := spl_mem this
  refine ⟨fun hs => ?_, ?_⟩
  · rw [okS_iff] at hs ⊢
    intro c hc
    rcases q1 c hc with h | h
    · cases h
    · exact hs c h
  · rw [TL.len_tl, TL.len_tl]
    simpa using q2
theorem wds_len (s : Str) : (wds s).length ≤ s.length + 2 := split_le s " "
/-! ### texts -/
def nl (s : Str) : Str := s ++ "\n"
def textOf (ls : List Str) : Str := Txt.join "" (ls.map nl)
theorem joinL_nl : ∀ ls : List Str, TL.joinL [] ((ls.map nl).map TL.tl) = TL.joinL [10] ((ls ++ [("" : Str)]).map TL.tl)
  | [] => rfl
  | [x] => by
    show TL.tl (x ++ "\n") = TL.tl x ++ ([10] ++ [])
    rw [TL.tl_append]
    rfl
  | x :: y :: r => by
    have ih := joinL_nl (y :: r)
    show TL.tl (x ++ "\n") ++ ([] ++ TL.joinL [] (((y :: r).map nl).map TL.tl)) = TL.tl x ++ ([10] ++ TL.joinL [10] (((y :: r) ++ [("" : Str)]).map TL.tl))
    rw [ih, TL.tl_append, List.nil_append, List.append_assoc]
    rfl
theorem text_join (ls : List Str) : textOf ls = Txt.join "\n" (ls ++ [("" : Str)]) := by
  unfold textOf
  rw [TL.join_eq, TL.join_eq]
  refine TL.ext_tl ?_
  rw [TL.tl_join, TL.tl_join]
  exact joinL_nl ls
theorem text_split {ls : List Str} (h : ∀ l ∈ ls, okS l = true) : Txt.split (textOf ls) "\n" = ls ++ [("" : Str)] := by
  rw [text_join]
  refine TL.split_join (s := 10) (S := []) (by decide +kernel) (by decide +kernel) (by simp) fun p hp => ?_
  rcases List.mem_append.mp hp with h' | h'
  · exact okS_nl (h p h')
  · rw [List.mem_singleton.mp h']
    decide +kernel
theorem joinL_len : ∀ ls : List (List Nat), (TL.joinL [] ls).length = (ls.map List.length).sum
  | [] => rfl
  | [x] => by simp [TL.joinL]
  | x :: y :: r => by
    show (x ++ ([] ++ TL.joinL [] (y :: r))).length = _
    rw [List.length_append, List.nil_append, joinL_len (y :: r)]
    simp
theorem text_len {ls : List Str} {n : Nat} (h : ∀ l ∈ ls, l.length ≤ n) : (textOf ls).length ≤ ls.length * (n + 1) := by
  unfold textOf
  rw [TL.join_eq, TL.len_tl, TL.tl_join]
  have e : TL.tl "" = [] := by decide +kernel
  rw [e, joinL_len, List.map_map, List.map_map]
  refine sum_const fun x hx => ?_
  show (TL.tl (x ++ "\n")).length ≤ n + 1
  rw [TL.tl_append, List.length_append, ← TL.len_tl]
  have := h x hx
  have e : (TL.tl "\n").length = 1 := by decide +kernel
  omega
end K79

set_option Elab.async false
set_option linter.all false
set_option autoImplicit false
set_option maxRecDepth 100000
set_option maxHeartbeats 4000000
/-! K79c: names, kinds of lines. -/
namespace K79
open PySem PySem.Spec PyProof.Rows L2 DI
def abc : Str := "abcdefghijklmnopqrstuvwxyz"
def letB (c : Nat) : Bool := !(Builtin.Str.occurrences abc ⟨#[c]⟩ 0 abc.length 1).isEmpty
def isNm (w : Str) : Bool := decide (0 < w.length) && decide (w.length ≤ 8) && w.cps.toList.all letB
section
variable {T : Tb} {β : Option Bag}
def nmSp : DSp := fun β ds Q => ∃ w : Str, ds = [.str w] ∧ w.length ≤ 10000 ∧ Q (.fz (.bl (isNm w)))
theorem nm_mono (β : Option Bag) (ds : List D) (Q Q' : R → Prop) (f : ∀ r, Q r → Q' r) (h : nmSp β ds Q) : nmSp β ds Q' := by
  obtain ⟨w, h1, h2, h3⟩ := h
  exact ⟨w, h1, h2, f _ h3⟩
theorem nm_ar (β : Option Bag) (ds : List D) (Q : R → Prop) (h : nmSp β ds Q) : ds.length = 1 := by
  obtain ⟨w, rfl, _⟩ := h
  rfl
theorem big {n : Nat} (h : n ≤ 100000) : n < sizeLine := by rw [sizeLine_eq]; omega
theorem big' {n : Nat} (h : n ≤ 100000) : n ≤ sizeLine := by rw [sizeLine_eq]; omega
/-- the module's constants -/
def glf (k : Nat) : D := Tx.gls.getD k .non
def gdf (k : Nat) : List (Str × Str) := Tx.gdv.getD k []
theorem nm_ev (hg : T.gl = glf) {ds : List D} {Q : R → Prop} (h : nmSp β ds Q) : evB T Tx.bd_is_name (sta 2 ds β) (finE β Q) := by
  obtain ⟨W, fn, gl, xfn, cn, fx, tabs, gd⟩ := T
  cases hg
  obtain ⟨w, rfl, hl, q⟩ := h
  show evB _ Tx.bd_is_name ⟨[.fz (.str w), .un], β⟩ _
  refine ⟨true, rfl, true, rfl, ?_⟩
  refine And.intro (big' (by omega)) ?_
  refine ⟨_, rfl, ?_⟩
  refine ifB (fun h0 => ?_) fun h0 => ?_
  · refine ⟨_, rfl, ?_⟩
    refine ifB (fun h1 => ?_) fun h1 => ?_
    · refine ⟨rfl, ?_⟩
      have h1 : (!decide ((w.length : Int) ≤ 8)) = true := h1
      have e : isNm w = false := by
        unfold isNm
        simp at h1
        have : decide (w.length ≤ 8) = false := by simp; omega
        rw [this]
        simp
      rw [e] at q
      exact q
    · have h0 : decide ((0 : Int) < (w.length : Int)) = true := h0
      have h1 : (!decide ((w.length : Int) ≤ 8)) = false := h1
      refine compG (fun c => .str ⟨#[c]⟩) (fun c => .bl (letB c)) w.cps.toList (big (by rw [← TL.len_tl]; omega)) (fun c hc k hk => ?_) ?_
      · exact hk
      · refine ⟨w.cps.toList.map letB, by rw [List.map_map]; rfl, rfl, ?_⟩
        have e : isNm w = (w.cps.toList.map letB).all id := by
          unfold isNm
          simp at h0 h1
          have e1 : decide (0 < w.length) = true := by simp; omega
          have e2 : decide (w.length ≤ 8) = true := by simp; omega
          rw [e1, e2, List.all_map]
          rfl
        rw [← e]
        exact q
  · refine ⟨rfl, ?_⟩
    have h0 : decide ((0 : Int) < (w.length : Int)) = false := h0
    have e : isNm w = false := by
      unfold isNm
      simp at h0
      have : decide (0 < w.length) = false := by simp; omega
      rw [this]
      simp
    rw [e] at q
    exact q
theorem lnm_ev {ds : List D} {Q : R → Prop} (h : nmSp β ds Q) : evB T Tx.bd_l_is_name (sta 3 ds β) (finE β Q) := by
  obtain ⟨w, rfl, hl, q⟩ := h
  show evB T Tx.bd_l_is_name ⟨[.fz (.str w), .un, .un], β⟩ _
  refine ⟨true, rfl, ?_⟩
  refine And.intro (big' (by omega)) ?_
  refine ⟨_, rfl, ?_⟩
  refine ifB (fun h0 => ?_) fun h0 => ?_
  · refine ⟨_, rfl, ?_⟩
    refine ifB (fun h1 => ?_) fun h1 => ?_
    · have h0 : decide ((0 : Int) < (w.length : Int)) = true := h0
      have h1 : decide ((w.length : Int) < 9) = true := h1
      refine compGf (fun c => .str ⟨#[c]⟩) (fun c => if letB c then none else some (.str ⟨#[c]⟩)) w.cps.toList (big (by rw [← TL.len_tl]; omega)) (fun c hc k hk => ?_) ?_
      · show (if (!letB c) = true then _ else _)
        cases e : letB c with
        | true =>
          rw [e] at hk
          exact hk
        | false =>
          rw [e] at hk
          exact hk
      · refine And.intro (big' (by simp)) ?_
        refine Or.inl (And.intro (nil_eqOk _) ?_)
        refine ⟨rfl, ?_⟩
        show Q (.fz (.bl (eqD (.lst _) (.lst []))))
        rw [eqD_nil]
        have e : isNm w = (w.cps.toList.filterMap fun c => if letB c then none else some (D.str ⟨#[c]⟩)).isEmpty := by
          unfold isNm
          simp at h0 h1
          have e1 : decide (0 < w.length) = true := by simp; omega
          have e2 : decide (w.length ≤ 8) = true := by simp; omega
          rw [e1, e2]
          generalize w.cps.toList = l
          induction l with
          | nil => rfl
          | cons c l ih =>
            rw [List.all_cons, List.filterMap_cons]
            cases e : letB c with
            | true => simpa using ih
            | false => simp
        rw [← e]
        exact q
    · refine ⟨rfl, ?_⟩
      have h1 : decide ((w.length : Int) < 9) = false := h1
      have e : isNm w = false := by
        unfold isNm
        simp at h1
        have : decide (w.length ≤ 8) = false := by simp; omega
        rw [this]
        simp
      rw [e] at q
      exact q
  · refine ⟨rfl, ?_⟩
    have h0 : decide ((0 : Int) < (w.length : Int)) = false := h0
    have e : isNm w = false := by
      unfold isNm
      simp at h0
      have : decide (0 < w.length) = false := by simp; omega
      rw [this]
      simp
    rw [e] at q
    exact q
end
end K79

set_option Elab.async false
set_option linter.all false
set_option autoImplicit false
set_option maxRecDepth 100000
set_option maxHeartbeats 4000000
/-! K79d: the kinds of lines. -/
namespace K79
open PySem PySem.Spec PyProof.Rows L2 DI
inductive Kd where
  | el | tr | al | en | of | ca | cs | fi | op | si | no
  deriving DecidableEq
def Kd.d : Kd → D
  | .el => .str "else"
  | .tr => .str "try"
  | .al => .str "always"
  | .en => .str "end"
  | .of => .str "of"
  | .ca => .str "catch"
  | .cs => .str "case"
  | .fi => .str "if"
  | .op => .str "open"
  | .si => .str "single"
  | .no => .non
def singles : List Str := ["do", "mark", "leave", "again", "raise", "stop", "call"]
def hk (a : Str) : Kd := if a = "case" then .cs else if a = "if" then .fi else if a = "loop" then .op else if a = "block" then .op else if a ∈ singles then .si else .no
def kindR (a : Str) (r : List Str) : Kd :=
  if a = "catch" then (if r.all isNm = true then .ca else .no) else
  match r with
  | [b] => if isNm b = true then hk a else .no
  | [b, c] => if a = "do" ∧ isNm b = true ∧ c = "of" then .of else .no
  | _ => .no
def kindW (line a : Str) (r : List Str) : Kd :=
  if line = "else" then .el else if line = "try" then .tr else if line = "always" then .al else if line = "end" then .en else kindR a r
theorem kr_ca {r : List Str} (h : r.all isNm = true) : kindR "catch" r = .ca := by unfold kindR; rw [if_pos rfl, if_pos h]
theorem kr_no {r : List Str} (h : r.all isNm = false) : kindR "catch" r = .no := by unfold kindR; rw [if_pos rfl, if_neg (by rw [h]; decide)]
theorem kr_of {b : Str} (h : isNm b = true) : kindR "do" [b, "of"] = .of := by
  unfold kindR
  rw [if_neg (by decide)]
  exact if_pos ⟨rfl, h, rfl⟩
theorem kr_two {a b : Str} (ha : a ≠ "catch") (h : isNm b = true) : kindR a [b] = hk a := by
  unfold kindR
  rw [if_neg ha]
  exact if_pos h
theorem kr_two' {a b : Str} (ha : a ≠ "catch") (h : isNm b = false) : kindR a [b] = .no := by
  unfold kindR
  rw [if_neg ha]
  exact if_neg (by rw [h]; decide)
theorem kr_else {a : Str} {r : List Str} (ha : a ≠ "catch") (h2 : r.length ≠ 1) (h3 : ∀ b c, r = [b, c] → ¬ (a = "do" ∧ isNm b = true ∧ c = "of")) : kindR a r = .no := by
  unfold kindR
  rw [if_neg ha]
  match r, h2, h3 with
  | [], _, _ => rfl
  | [b], h, _ => exact absurd rfl h
  | [b, c], _, h => exact if_neg (h b c rfl)
  | _ :: _ :: _ :: _, _, _ => rfl
def kind (line : Str) : Kd := match wds line with
  | [] => .no
  | a :: r => kindW line a r
theorem eqD_int {i j : Int} : eqD (.int i) (.int j) = decide (i = j) := by
  show PyData.eqv (.int i) (.int j) = _
  simp only [PyData.eqv]
  exact beqDec i j
section
variable {T : Tb} {β : Option Bag}
def kindSp : DSp := fun β ds Q => ∃ l : Str, ds = [.str l] ∧ l.length ≤ 1000 ∧ Q (.fz (kind l).d)
theorem kind_mono (β : Option Bag) (ds : List D) (Q Q' : R → Prop) (f : ∀ r, Q r → Q' r) (h : kindSp β ds Q) : kindSp β ds Q' := by
  obtain ⟨w, h1, h2, h3⟩ := h
  exact ⟨w, h1, h2, f _ h3⟩
theorem kind_ar (β : Option Bag) (ds : List D) (Q : R → Prop) (h : kindSp β ds Q) : ds.length = 1 := by
  obtain ⟨w, rfl, _⟩ := h
  rfl
def four : List Str := ["else", "try", "always", "end"]
theorem kindW_four {line a : Str} {r : List Str} (h : line ∈ four) : (kindW line a r).d = .str line := by
  simp only [four, List.mem_cons, List.not_mem_nil, or_false] at h
  rcases h with rfl | rfl | rfl | rfl
  · rfl
  · unfold kindW; rw [if_neg (by decide), if_pos rfl]; rfl
  · unfold kindW; rw [if_neg (by decide), if_neg (by decide), if_pos rfl]; rfl
  · unfold kindW; rw [if_neg (by decide), if_neg (by decide), if_neg (by decide), if_pos rfl]; rfl
theorem kindW_not {line a : Str} {r : List Str} (h : line ∉ four) : kindW line a r = kindR a r := by
  simp only [four, List.mem_cons, List.not_mem_nil, or_false, not_or] at h
  unfold kindW
  rw [if_neg h.1, if_neg h.2.1, if_neg h.2.2.1, if_neg h.2.2.2]
theorem cut_to {xs : List D} {i : Int} (h0 : 0 ≤ i) : DI.cutD xs none (some i) = xs.take i.toNat := by
  obtain ⟨k, rfl⟩ := Int.eq_ofNat_of_zero_le h0
  unfold DI.cutD
  rw [HT.sIx_nat, HT.sIx_none, Int.toNat_natCast, List.drop_zero, Nat.sub_zero]
  by_cases h : k ≤ xs.length
  · rw [Nat.min_eq_left h]
  · rw [Nat.min_eq_right (by omega), List.take_of_length_le (Nat.le_refl _), List.take_of_length_le (by omega)]
theorem cut_from {xs : List D} {i : Int} (h0 : 0 ≤ i) : DI.cutD xs (some i) none = xs.drop i.toNat := by
  obtain ⟨k, rfl⟩ := Int.eq_ofNat_of_zero_le h0
  unfold DI.cutD
  rw [HT.sIx_nat, HT.sIx_none, Int.toNat_natCast]
  by_cases h : k ≤ xs.length
  · rw [Nat.min_eq_left h]
    rw [List.take_of_length_le (by rw [List.length_drop]; exact Nat.le_refl _)]
  · rw [Nat.min_eq_right (by omega), Nat.sub_self, List.take_zero, List.drop_of_length_le (by omega)]
theorem cut_one (a : Str) (r : List Str) : cutD (sD (a :: r)) (some 1) none = sD r := cut_from (by decide)
theorem cut_last (xs : List D) (x : D) : cutD (xs ++ [x]) none (some (-1)) = xs := by
  unfold DI.cutD
  rw [HT.sIx_none, List.length_append]
  have e : HT.sIx (xs.length + [x].length) (xs.length + [x].length) (some (-1)) = xs.length := by
    unfold HT.sIx
    simp
    omega
  rw [e, List.drop_zero, Nat.sub_zero, List.take_left' rfl]
theorem at_zero (x : D) (xs : List D) : atI (x :: xs) 0 = some x := atN (i := 0) rfl
theorem kind_ev (hg : T.gl = glf) (t0 : T.fn 0 = nmSp) {ds : List D} {Q : R → Prop} (h : kindSp β ds Q) : evB T Tx.bd_kind_of (sta 3 ds β) (finE β Q) := by
  obtain ⟨W, fn, gl, xfn, cn, fx, tabs, gd⟩ := T
  have hg : gl = glf := hg
  subst hg
  have t0 : fn 0 = nmSp := t0
  obtain ⟨line, rfl, hl, q⟩ := h
  show evB _ Tx.bd_kind_of ⟨[.fz (.str line), .un, .un], β⟩ _
  refine And.intro (by decide +kernel) (And.intro (big' (by omega)) ?_)
  obtain ⟨a, r, hw⟩ : ∃ a r, wds line = a :: r := List.exists_cons_of_ne_nil (wds_ne line)
  have hlen : ∀ w ∈ a :: r, w.length ≤ 10000 := fun w hm => by
    have := (wds_mem (s := line) (w := w) (by rw [hw]; exact hm)).2
    omega
  have hrl : (a :: r).length ≤ 1002 := by
    have := wds_len line
    rw [hw] at this
    omega
  have qq : Q (.fz (kindW line a r).d) := by
    unfold kind at q
    rw [hw] at q
    exact q
  show evB _ (Tx.bd_kind_of.drop 1) ⟨[.fz (.str line), .ow (.lst (sD (wds line))), .un], β⟩ _
  rw [hw]
  refine And.intro (big' (by decide)) ?_
  refine And.intro (.inl ⟨rfl, rfl⟩) ?_
  refine ifB (fun h => ?_) fun h => ?_
  · have h : inD (.str line) (sD four) = true := h
    rw [inD_sD, decide_eq_true_eq] at h
    rw [kindW_four h] at qq
    exact ⟨rfl, qq⟩
  have h : inD (.str line) (sD four) = false := h
  rw [inD_sD, decide_eq_false_iff_not] at h
  rw [kindW_not h] at qq
  show evB _ (Tx.bd_kind_of.drop 2) ⟨[.fz (.str line), .ow (.lst (sD (a :: r))), .un], β⟩ _
  -- behind the third: words[0] is no "catch" with names
  have t5 : (a ≠ "catch" ∨ r.all isNm = false) → (∀ b c, r = [b, c] → ¬ (a = "do" ∧ isNm b = true ∧ c = "of")) → evB ⟨W, fn, glf, xfn, cn, fx, tabs, gd⟩ (Tx.bd_kind_of.drop 4) ⟨[.fz (.str line), .ow (.lst (sD (a :: r))), .un], β⟩ (finE β Q) := fun hca hno => by
    refine Or.inl (And.intro (.inl ⟨rfl, rfl⟩) ?_)
    refine ifB (fun h => ?_) fun h => ?_
    · have h : (!eqD (.int ((sD (a :: r)).length : Int)) (.int 2)) = true := h
      rw [eqD_int, Bool.not_eq_true', decide_eq_false_iff_not, sD_len, List.length_cons] at h
      have e : kindR a r = .no := by
        by_cases hc : a = "catch"
        · subst hc
          exact kr_no (hca.resolve_left fun z => z rfl)
        · exact kr_else hc (fun z => h (by rw [z]; rfl)) hno
      rw [e] at qq
      exact ⟨rfl, qq⟩
    · have h : (!eqD (.int ((sD (a :: r)).length : Int)) (.int 2)) = false := h
      rw [eqD_int, Bool.not_eq_false', decide_eq_true_eq, sD_len, List.length_cons] at h
      obtain ⟨b, rfl⟩ : ∃ b, r = [b] := by
        match r, h with
        | [b], _ => exact ⟨b, rfl⟩
        | [], h => simp at h
        | _ :: _ :: _, h => simp at h; omega
      refine Exists.intro _ (And.intro rfl ?_)
      show fn 0 β [.str b] _
      rw [t0]
      refine ⟨b, rfl, hlen b (by simp), ?_⟩
      refine ⟨_, rfl, ?_⟩
      refine ifB (fun h2 => ?_) fun h2 => ?_
      · have h2 : (!isNm b) = true := h2
        have h2 : isNm b = false := by simpa using h2
        have e : kindR a [b] = .no := by
          by_cases hc : a = "catch"
          · subst hc
            exact kr_no (hca.resolve_left fun z => z rfl)
          · exact kr_two' hc h2
        rw [e] at qq
        exact ⟨rfl, qq⟩
      have h2 : (!isNm b) = false := h2
      have h2 : isNm b = true := by simpa using h2
      have hc : a ≠ "catch" := hca.resolve_right fun z => by simp [h2] at z
      rw [kr_two hc h2] at qq
      show evB _ (Tx.bd_kind_of.drop 5) ⟨[.fz (.str line), .ow (.lst (sD [a, b])), .un], β⟩ _
      refine Exists.intro _ (And.intro rfl ?_)
      refine And.intro (big' (by decide)) ?_
      refine And.intro (.inl ⟨rfl, rfl⟩) ?_
      refine ifB (fun h => ?_) fun h => ?_
      · have h : inD (.str a) (sD ["case", "if"]) = true := h
        rw [inD_sD, decide_eq_true_eq] at h
        refine Exists.intro _ (And.intro rfl ?_)
        refine ⟨rfl, ?_⟩
        simp only [List.mem_cons, List.not_mem_nil, or_false] at h
        rcases h with rfl | rfl
        · exact qq
        · exact qq
      have h : inD (.str a) (sD ["case", "if"]) = false := h
      rw [inD_sD, decide_eq_false_iff_not] at h
      simp only [List.mem_cons, List.not_mem_nil, or_false, not_or] at h
      show evB _ (Tx.bd_kind_of.drop 6) ⟨[.fz (.str line), .ow (.lst (sD [a, b])), .un], β⟩ _
      refine Exists.intro _ (And.intro rfl ?_)
      refine And.intro (big' (by decide)) ?_
      refine And.intro (.inl ⟨rfl, rfl⟩) ?_
      unfold hk at qq
      rw [if_neg h.1, if_neg h.2] at qq
      refine ifB (fun h => ?_) fun h => ?_
      · have h : inD (.str a) (sD ["loop", "block"]) = true := h
        rw [inD_sD, decide_eq_true_eq] at h
        simp only [List.mem_cons, List.not_mem_nil, or_false] at h
        refine ⟨rfl, ?_⟩
        rcases h with rfl | rfl
        · exact qq
        · exact qq
      have h : inD (.str a) (sD ["loop", "block"]) = false := h
      rw [inD_sD, decide_eq_false_iff_not] at h
      simp only [List.mem_cons, List.not_mem_nil, or_false, not_or] at h
      rw [if_neg h.1, if_neg h.2] at qq
      show evB _ (Tx.bd_kind_of.drop 7) ⟨[.fz (.str line), .ow (.lst (sD [a, b])), .un], β⟩ _
      refine Exists.intro _ (And.intro rfl ?_)
      refine And.intro (.inl ⟨rfl, rfl⟩) ?_
      refine ifB (fun h => ?_) fun h => ?_
      · have h : inD (.str a) (sD singles) = true := h
        rw [inD_sD, decide_eq_true_eq] at h
        rw [if_pos h] at qq
        exact ⟨rfl, qq⟩
      · have h : inD (.str a) (sD singles) = false := h
        rw [inD_sD, decide_eq_false_iff_not] at h
        rw [if_neg h] at qq
        exact ⟨rfl, qq⟩
  have t4 : (∀ b c, r = [b, c] → ¬ (a = "do" ∧ isNm b = true ∧ c = "of")) → evB ⟨W, fn, glf, xfn, cn, fx, tabs, gd⟩ (Tx.bd_kind_of.drop 3) ⟨[.fz (.str line), .ow (.lst (sD (a :: r))), .un], β⟩ (finE β Q) := fun hno => by
    refine Exists.intro _ (And.intro (at_zero _ _) ?_)
    refine Or.inl (And.intro (.inl ⟨rfl, rfl⟩) ?_)
    refine ifB (fun h => ?_) fun h => ?_
    · have h : eqD (.str a) (.str "catch") = true := h
      rw [eqD_str, decide_eq_true_eq] at h
      subst h
      show compD _ (cutD (sD (_ :: r)) (some 1) none) [] _ _
      rw [cut_one]
      refine compG D.str (fun b => .bl (isNm b)) r (big (by simp at hrl; omega)) (fun c hc k hk => ?_) ?_
      · show fn 0 β [.str c] _
        rw [t0]
        exact ⟨c, rfl, hlen c (List.mem_cons_of_mem _ hc), hk⟩
      · refine ⟨r.map isNm, by rw [List.map_map]; rfl, ?_⟩
        refine ⟨_, rfl, ?_⟩
        refine ifB (fun h => ?_) fun h => ?_
        · have h : (r.map isNm).all id = true := h
          rw [List.all_map] at h
          rw [kr_ca h] at qq
          exact ⟨rfl, qq⟩
        · have h : (r.map isNm).all id = false := h
          rw [List.all_map] at h
          exact t5 (.inr h) hno
    · have h : eqD (.str a) (.str "catch") = false := h
      rw [eqD_str, decide_eq_false_iff_not] at h
      exact t5 (.inl h) hno
  refine Or.inl (And.intro (.inl ⟨rfl, rfl⟩) ?_)
  refine ifB (fun h => ?_) fun h => ?_
  · have h : eqD (.int ((sD (a :: r)).length : Int)) (.int 3) = true := h
    rw [eqD_int, decide_eq_true_eq, sD_len, List.length_cons] at h
    obtain ⟨b, c, rfl⟩ : ∃ b c, r = [b, c] := by
      match r, h with
      | [b, c], _ => exact ⟨b, c, rfl⟩
      | [], h => simp at h
      | [_], h => simp at h
      | _ :: _ :: _ :: _, h => simp at h; omega
    refine Exists.intro _ (And.intro rfl ?_)
    refine Or.inl (And.intro (.inl ⟨rfl, rfl⟩) ?_)
    refine ifB (fun h1 => ?_) fun h1 => ?_
    · have h1 : eqD (.str a) (.str "do") = true := h1
      rw [eqD_str, decide_eq_true_eq] at h1
      refine Exists.intro _ (And.intro rfl ?_)
      show fn 0 β [.str b] _
      rw [t0]
      refine ⟨b, rfl, hlen b (by simp), ?_⟩
      refine ⟨_, rfl, ?_⟩
      refine ifB (fun h2 => ?_) fun h2 => ?_
      · refine Exists.intro _ (And.intro rfl ?_)
        refine Or.inl (And.intro (.inl ⟨rfl, rfl⟩) ?_)
        refine ifB (fun h3 => ?_) fun h3 => ?_
        · have h3 : eqD (.str c) (.str "of") = true := h3
          rw [eqD_str, decide_eq_true_eq] at h3
          subst h1 h3
          rw [kr_of h2] at qq
          exact ⟨rfl, qq⟩
        · have h3 : eqD (.str c) (.str "of") = false := h3
          rw [eqD_str, decide_eq_false_iff_not] at h3
          exact t4 fun b' c' e hh => by
            cases e
            exact h3 hh.2.2
      · exact t4 fun b' c' e hh => by
          cases e
          rw [hh.2.1] at h2
          cases h2
    · have h1 : eqD (.str a) (.str "do") = false := h1
      rw [eqD_str, decide_eq_false_iff_not] at h1
      exact t4 fun b' c' e hh => h1 hh.1
  · have h : eqD (.int ((sD (a :: r)).length : Int)) (.int 3) = false := h
    rw [eqD_int, decide_eq_false_iff_not, sD_len, List.length_cons] at h
    exact t4 fun b' c' e hh => by
      subst e
      exact h rfl
end
end K79

set_option Elab.async false
set_option linter.all false
set_option autoImplicit false
set_option maxRecDepth 100000
set_option maxHeartbeats 4000000
/-! K79e: the law's own kinds; the kinds of a text, texts. -/
namespace K79
open PySem PySem.Spec PyProof.Rows L2 DI
def base4 : List (D × D) := [(.str "loop", .str "open"), (.str "block", .str "open"), (.str "case", .str "case"), (.str "if", .str "if")]
def tabAt (i : Nat) : List (D × D) := base4 ++ (singles.take i).map fun w => (.str w, .str "single")
theorem tab_put : ∀ i (h : i < 7), putDD (tabAt i) (.inr (singles[i]'h)) (.str "single") = tabAt (i + 1) := by
  intro i h
  have hn : hasD (tabAt i) (.inr (singles[i]'h)) = false := by
    revert h
    revert i
    decide +kernel
  unfold putDD
  rw [if_neg (by rw [hn]; decide)]
  unfold tabAt
  rw [List.take_succ, List.map_append, ← List.append_assoc, List.getElem?_eq_getElem h]
  rfl
theorem valD_cons (x a : Str) (d : D) (r : List (D × D)) : valD ((.str x, d) :: r) (.inr a) = if a = x then some d else valD r (.inr a) := by
  rw [valD]
  by_cases h : a = x
  · subst h
    rw [if_pos rfl]
    exact if_pos rfl
  · rw [if_neg h, if_neg]
    intro e
    have e : some (Sum.inr x : Key) = some (.inr a) := e
    cases e
    exact h rfl
theorem tab_val (a : Str) : (valD (tabAt 7) (.inr a)).getD .non = (hk a).d := by
  show (valD [(.str "loop", .str "open"), (.str "block", .str "open"), (.str "case", .str "case"), (.str "if", .str "if"), (.str "do", .str "single"), (.str "mark", .str "single"), (.str "leave", .str "single"), (.str "again", .str "single"), (.str "raise", .str "single"), (.str "stop", .str "single"), (.str "call", .str "single")] (.inr a)).getD .non = _
  simp only [valD_cons]
  unfold hk
  by_cases h1 : a = "case"
  · subst h1; kernel_rfl
  by_cases h2 : a = "if"
  · subst h2; kernel_rfl
  by_cases h3 : a = "loop"
  · subst h3; kernel_rfl
  by_cases h4 : a = "block"
  · subst h4; kernel_rfl
  rw [if_neg h1, if_neg h2, if_neg h3, if_neg h4, if_neg h3, if_neg h4, if_neg h1, if_neg h2]
  by_cases h5 : a ∈ singles
  · rw [if_pos h5]
    simp only [singles, List.mem_cons, List.not_mem_nil, or_false] at h5
    rcases h5 with rfl | rfl | rfl | rfl | rfl | rfl | rfl <;> kernel_rfl
  · rw [if_neg h5]
    simp only [singles, List.mem_cons, List.not_mem_nil, or_false, not_or] at h5
    obtain ⟨q1, q2, q3, q4, q5, q6, q7⟩ := h5
    rw [if_neg q1, if_neg q2, if_neg q3, if_neg q4, if_neg q5, if_neg q6, if_neg q7]
    rfl
theorem wds_four {line : Str} (h : line ∈ four) : wds line = [line] ∧ line ≠ "do" ∧ line ≠ "catch" := by
  simp only [four, List.mem_cons, List.not_mem_nil, or_false] at h
  rcases h with rfl | rfl | rfl | rfl <;> decide +kernel
theorem of_nm : isNm "of" = true := by decide +kernel
theorem kr_unnamed {a : Str} {r : List Str} (h : r.all isNm = false) : kindR a r = .no := by
  by_cases hc : a = "catch"
  · subst hc
    exact kr_no h
  · match r, h with
    | [], h => cases h
    | [b], h => exact kr_two' hc (by simpa using h)
    | [b, c], h =>
      refine kr_else hc (by simp) fun b' c' e hh => ?_
      cases e
      obtain ⟨_, h1, rfl⟩ := hh
      simp [h1, of_nm] at h
    | _ :: _ :: _ :: _, h => exact kr_else hc (by simp) fun b' c' e => by cases e
theorem named_all (r : List Str) : eqD (.lst (r.filterMap fun b => if isNm b then none else some (D.str b))) (.lst []) = r.all isNm := by
  rw [eqD_nil]
  induction r with
  | nil => rfl
  | cons b r ih =>
    rw [List.filterMap_cons, List.all_cons]
    cases e : isNm b with
    | true => simpa using ih
    | false => simp
section
variable {T : Tb} {β : Option Bag}
theorem lkind_ev (t24 : T.fn 24 = nmSp) {ds : List D} {Q : R → Prop} (h : kindSp β ds Q) : evB T Tx.bd_l_kind (sta 5 ds β) (finE β Q) := by
  obtain ⟨line, rfl, hl, q⟩ := h
  show evB T Tx.bd_l_kind ⟨[.fz (.str line), .un, .un, .un, .un], β⟩ _
  refine And.intro (by decide +kernel) (And.intro (big' (by omega)) ?_)
  obtain ⟨a, r, hw⟩ : ∃ a r, wds line = a :: r := List.exists_cons_of_ne_nil (wds_ne line)
  have hlen : ∀ w ∈ a :: r, w.length ≤ 10000 := fun w hm => by
    have := (wds_mem (s := line) (w := w) (by rw [hw]; exact hm)).2
    omega
  have hrl : (a :: r).length ≤ 1002 := by
    have := wds_len line
    rw [hw] at this
    omega
  have qq : Q (.fz (kindW line a r).d) := by
    unfold kind at q
    rw [hw] at q
    exact q
  show evB T (Tx.bd_l_kind.drop 1) ⟨[.fz (.str line), .ow (.lst (sD (wds line))), .un, .un, .un], β⟩ _
  rw [hw]
  show compD _ (cutD (sD (a :: r)) (some 1) none) [] _ _
  rw [cut_one]
  refine compGf D.str (fun b => if isNm b then none else some (.str b)) r (big (by simp at hrl; omega)) (fun c hc k hk => ?_) ?_
  · show T.fn 24 β [.str c] _
    rw [t24]
    refine ⟨c, rfl, hlen c (List.mem_cons_of_mem _ hc), ?_⟩
    refine ⟨_, rfl, ?_⟩
    show (if (!isNm c) = true then _ else _)
    cases e : isNm c with
    | true => rw [e] at hk; exact hk
    | false => rw [e] at hk; exact hk
  refine And.intro (big' (by simp)) ?_
  refine Or.inl (And.intro (nil_eqOk _) ?_)
  have e1 := named_all r
  show evB T (Tx.bd_l_kind.drop 2) ⟨[.fz (.str line), .ow (.lst (sD (a :: r))), .fz (.bl (eqD (.lst (r.filterMap fun b => if isNm b then none else some (D.str b))) (.lst []))), .un, .un], β⟩ _
  rw [e1]
  refine ⟨_, rfl, ?_⟩
  refine ifB (fun h => ?_) fun h => ?_
  · have h : (!r.all isNm) = true := h
    have h : r.all isNm = false := by simpa using h
    have h4 : line ∉ four := fun z => by
      have := (wds_four z).1
      rw [hw] at this
      cases this
      cases h
    rw [kindW_not h4, kr_unnamed h] at qq
    exact ⟨rfl, qq⟩
  have h : (!r.all isNm) = false := h
  have hnm : r.all isNm = true := by simpa using h
  clear h
  -- the last statements
  have t6 : (a ≠ "catch") → (∀ b c, r = [b, c] → ¬ (a = "do" ∧ c = "of")) → evB T (Tx.bd_l_kind.drop 5) ⟨[.fz (.str line), .ow (.lst (sD (a :: r))), .fz (.bl (r.all isNm)), .un, .un], β⟩ (finE β Q) := fun hc hno => by
    have rest : ∀ m, evB T (Tx.bd_l_kind.drop 7) ⟨[.fz (.str line), .ow (.lst (sD (a :: r))), .fz (.bl (r.all isNm)), .ow (.dct (tabAt 7)), m], β⟩ (finE β Q) := fun m => by
      refine Or.inl (And.intro (.inl ⟨rfl, rfl⟩) ?_)
      refine ifB (fun h => ?_) fun h => ?_
      · have h : eqD (.int ((sD (a :: r)).length : Int)) (.int 2) = true := h
        rw [eqD_int, decide_eq_true_eq, sD_len, List.length_cons] at h
        obtain ⟨b, rfl⟩ : ∃ b, r = [b] := by
          match r, h with
          | [b], _ => exact ⟨b, rfl⟩
          | [], h => simp at h
          | _ :: _ :: _, h => simp at h; omega
        have h4 : line ∉ four := fun z => by
          have := (wds_four z).1
          rw [hw] at this
          cases this
        rw [kindW_not h4, kr_two hc (by simpa using hnm)] at qq
        refine And.intro ⟨_, rfl⟩ ?_
        refine Exists.intro _ (And.intro rfl ?_)
        refine ⟨rfl, ?_⟩
        show Q (.fz ((valD (tabAt 7) (.inr a)).getD .non))
        rw [tab_val]
        exact qq
      · have h : eqD (.int ((sD (a :: r)).length : Int)) (.int 2) = false := h
        rw [eqD_int, decide_eq_false_iff_not, sD_len, List.length_cons] at h
        refine And.intro (big' (by decide)) ?_
        refine And.intro (.inl ⟨rfl, rfl⟩) ?_
        refine ifB (fun h4 => ?_) fun h4 => ?_
        · have h4 : inD (.str line) (sD four) = true := h4
          rw [inD_sD, decide_eq_true_eq] at h4
          rw [kindW_four h4] at qq
          exact ⟨rfl, qq⟩
        · have h4 : inD (.str line) (sD four) = false := h4
          rw [inD_sD, decide_eq_false_iff_not] at h4
          rw [kindW_not h4, kr_else hc (fun z => h (by rw [z]; rfl)) fun b c e hh => hno b c e ⟨hh.1, hh.2.2⟩] at qq
          exact ⟨rfl, qq⟩
    refine And.intro rfl (And.intro (by decide +kernel) (ifF ?_))
    refine And.intro (big' (by decide)) ?_
    refine forI (fun i ρ => ∃ m, ρ = ⟨[.fz (.str line), .ow (.lst (sD (a :: r))), .fz (.bl (r.all isNm)), .ow (.dct (tabAt i)), m], β⟩) ⟨.un, rfl⟩ ?_ ?_
    · rintro i d _ E2 hd ⟨m, rfl⟩ hn - - -
      obtain ⟨hi, rfl⟩ := sD_get (t := singles) hd
      refine And.intro ⟨_, rfl⟩ ?_
      refine And.intro ?_ ?_
      · have : (tabAt i).length ≤ 11 := by
          unfold tabAt
          rw [List.length_append, List.length_map, List.length_take]
          have : base4.length = 4 := rfl
          have : singles.length = 7 := rfl
          omega
        exact big (by omega)
      · refine hn _ ⟨.fz (.str singles[i]), ?_⟩
        rw [← tab_put i hi]
        rfl
    · rintro _ ⟨m, rfl⟩
      exact rest m
  have t4 : (∀ b c, r = [b, c] → ¬ (a = "do" ∧ c = "of")) → evB T (Tx.bd_l_kind.drop 4) ⟨[.fz (.str line), .ow (.lst (sD (a :: r))), .fz (.bl (r.all isNm)), .un, .un], β⟩ (finE β Q) := fun hno => by
    refine Exists.intro _ (And.intro (at_zero _ _) ?_)
    refine Or.inl (And.intro (.inl ⟨rfl, rfl⟩) ?_)
    refine ifB (fun h => ?_) fun h => ?_
    · have h : eqD (.str a) (.str "catch") = true := h
      rw [eqD_str, decide_eq_true_eq] at h
      subst h
      have h4 : line ∉ four := fun z => by
        have := wds_four z
        rw [hw] at this
        exact this.2.2 (by have := this.1; simp at this; exact this.1.symm)
      rw [kindW_not h4, kr_ca hnm] at qq
      exact ⟨rfl, qq⟩
    · have h : eqD (.str a) (.str "catch") = false := h
      rw [eqD_str, decide_eq_false_iff_not] at h
      exact t6 h hno
  show evB T (Tx.bd_l_kind.drop 3) ⟨[.fz (.str line), .ow (.lst (sD (a :: r))), .fz (.bl (r.all isNm)), .un, .un], β⟩ _
  refine Exists.intro _ (And.intro (at_zero _ _) ?_)
  refine Or.inl (And.intro (.inl ⟨rfl, rfl⟩) ?_)
  refine ifB (fun h => ?_) fun h => ?_
  · have hdo : eqD (.str a) (.str "do") = true := h
    rw [eqD_str, decide_eq_true_eq] at hdo
    refine Or.inl (And.intro (.inl ⟨rfl, rfl⟩) ?_)
    refine ifB (fun h1 => ?_) fun h1 => ?_
    · have h1 : eqD (.int ((sD (a :: r)).length : Int)) (.int 3) = true := h1
      rw [eqD_int, decide_eq_true_eq, sD_len, List.length_cons] at h1
      obtain ⟨b, c, rfl⟩ : ∃ b c, r = [b, c] := by
        match r, h1 with
        | [b, c], _ => exact ⟨b, c, rfl⟩
        | [], h => simp at h
        | [_], h => simp at h
        | _ :: _ :: _ :: _, h => simp at h; omega
      refine Exists.intro _ (And.intro rfl ?_)
      refine Or.inl (And.intro (.inl ⟨rfl, rfl⟩) ?_)
      refine ifB (fun h2 => ?_) fun h2 => ?_
      · have h2 : eqD (.str c) (.str "of") = true := h2
        rw [eqD_str, decide_eq_true_eq] at h2
        have h4 : line ∉ four := fun z => by
          have := (wds_four z).1
          rw [hw] at this
          cases this
        subst hdo h2
        rw [kindW_not h4, kr_of (by simp at hnm; exact hnm.1)] at qq
        exact ⟨rfl, qq⟩
      · have h2 : eqD (.str c) (.str "of") = false := h2
        rw [eqD_str, decide_eq_false_iff_not] at h2
        exact t4 fun b' c' e hh => by
          cases e
          exact h2 hh.2
    · have h1 : eqD (.int ((sD (a :: r)).length : Int)) (.int 3) = false := h1
      rw [eqD_int, decide_eq_false_iff_not, sD_len, List.length_cons] at h1
      exact t4 fun b' c' e hh => by
        subst e
        exact h1 rfl
  · have h : eqD (.str a) (.str "do") = false := h
    rw [eqD_str, decide_eq_false_iff_not] at h
    exact t4 fun b' c' e hh => h hh.1
end
end K79

set_option Elab.async false
set_option linter.all false
set_option autoImplicit false
set_option maxRecDepth 100000
set_option maxHeartbeats 4000000
/-! K79f: the kinds of a text's lines; lines joined. -/
namespace K79
open PySem PySem.Spec PyProof.Rows L2 DI
def kD (ks : List Kd) : List D := ks.map Kd.d
section
variable {T : Tb} {β : Option Bag}
def Lns (ls : List Str) : Prop := (∀ l ∈ ls, Ln 100 l) ∧ ls.length ≤ 60
def kindsSp : DSp := fun β ds Q => ∃ ls : List Str, ds = [.str (textOf ls)] ∧ Lns ls ∧ Q (.ow (.lst (kD (ls.map kind))))
theorem kinds_mono (β : Option Bag) (ds : List D) (Q Q' : R → Prop) (f : ∀ r, Q r → Q' r) (h : kindsSp β ds Q) : kindsSp β ds Q' := by
  obtain ⟨w, h1, h2, h3⟩ := h
  exact ⟨w, h1, h2, f _ h3⟩
theorem kinds_ar (β : Option Bag) (ds : List D) (Q : R → Prop) (h : kindsSp β ds Q) : ds.length = 1 := by
  obtain ⟨w, rfl, _⟩ := h
  rfl
theorem Lns.text {ls : List Str} (h : Lns ls) : (textOf ls).length ≤ 20000 := by
  have := text_len (ls := ls) (n := 100) fun l hl => (h.1 l hl).len
  have h2 := h.2
  have : ls.length * (100 + 1) ≤ 60 * 101 := Nat.mul_le_mul h2 (Nat.le_refl _)
  omega
theorem kinds_ev (t2 : T.fn 2 = kindSp) {ds : List D} {Q : R → Prop} (h : kindsSp β ds Q) : evB T Tx.bd_kinds_of (sta 2 ds β) (finE β Q) := by
  obtain ⟨ls, rfl, hls, q⟩ := h
  show evB T Tx.bd_kinds_of ⟨[.fz (.str (textOf ls)), .un], β⟩ _
  have := hls.text
  refine And.intro (by decide +kernel) (And.intro (big' (by omega)) ?_)
  show compD _ (cutD ((Txt.split (textOf ls) "\n").map D.str) none (some (-1))) [] _ _
  rw [text_split fun l hl => (hls.1 l hl).ok, List.map_append]
  show compD _ (cutD (sD ls ++ [D.str ""]) none (some (-1))) [] _ _
  rw [cut_last]
  refine compG D.str (fun l => (kind l).d) ls (big (by have := hls.2; omega)) (fun c hc k hk => ?_) ?_
  · show T.fn 2 β [.str c] _
    rw [t2]
    have := (hls.1 c hc).len
    refine ⟨c, rfl, by omega, ?_⟩
    cases e : kind c <;> (rw [e] at hk; exact hk)
  · refine ⟨rfl, ?_⟩
    unfold kD at q
    rw [List.map_map] at q
    exact q
def lkindsSp : DSp := fun β ds Q => ∃ ls : List Str, ds = [.lst (sD ls)] ∧ Lns ls ∧ Q (.ow (.lst (kD (ls.map kind))))
theorem lkinds_mono (β : Option Bag) (ds : List D) (Q Q' : R → Prop) (f : ∀ r, Q r → Q' r) (h : lkindsSp β ds Q) : lkindsSp β ds Q' := by
  obtain ⟨w, h1, h2, h3⟩ := h
  exact ⟨w, h1, h2, f _ h3⟩
theorem lkinds_ar (β : Option Bag) (ds : List D) (Q : R → Prop) (h : lkindsSp β ds Q) : ds.length = 1 := by
  obtain ⟨w, rfl, _⟩ := h
  rfl
theorem lkinds_ev (t30 : T.fn 30 = kindSp) {ds : List D} {Q : R → Prop} (h : lkindsSp β ds Q) : evB T Tx.bd_l_kinds (sta 2 ds β) (finE β Q) := by
  obtain ⟨ls, rfl, hls, q⟩ := h
  show evB T Tx.bd_l_kinds ⟨[.fz (.lst (sD ls)), .un], β⟩ _
  refine compG D.str (fun l => (kind l).d) ls (big (by have := hls.2; omega)) (fun c hc k hk => ?_) ?_
  · show T.fn 30 β [.str c] _
    rw [t30]
    have := (hls.1 c hc).len
    refine ⟨c, rfl, by omega, ?_⟩
    cases e : kind c <;> (rw [e] at hk; exact hk)
  · refine ⟨rfl, ?_⟩
    unfold kD at q
    rw [List.map_map] at q
    exact q
def joinSp : DSp := fun β ds Q => ∃ ls : List Str, ds = [.lst (sD ls)] ∧ Lns ls ∧ Q (.fz (.str (textOf ls)))
theorem join_mono (β : Option Bag) (ds : List D) (Q Q' : R → Prop) (f : ∀ r, Q r → Q' r) (h : joinSp β ds Q) : joinSp β ds Q' := by
  obtain ⟨w, h1, h2, h3⟩ := h
  exact ⟨w, h1, h2, f _ h3⟩
theorem join_ar (β : Option Bag) (ds : List D) (Q : R → Prop) (h : joinSp β ds Q) : ds.length = 1 := by
  obtain ⟨w, rfl, _⟩ := h
  rfl
theorem nl_len (s : Str) : (nl s).length = s.length + 1 := by
  unfold nl
  rw [len_app]
  rfl
theorem nl_sum {ls : List Str} (h : Lns ls) : ((ls.map nl).map (·.length)).sum + (ls.map nl).length * (("" : Str)).length ≤ 16777216 := by
  have e : (("" : Str)).length = 0 := rfl
  rw [e, Nat.mul_zero, List.map_map]
  have := sum_const (l := ls) (g := (fun x : Str => x.length) ∘ nl) (c := 101) fun x hx => by
    have := (h.1 x hx).len
    show (nl x).length ≤ 101
    rw [nl_len]
    omega
  have h2 := h.2
  omega
theorem join_ev {ds : List D} {Q : R → Prop} (h : joinSp β ds Q) : evB T Tx.bd_joined (sta 2 ds β) (finE β Q) := by
  obtain ⟨ls, rfl, hls, q⟩ := h
  show evB T Tx.bd_joined ⟨[.fz (.lst (sD ls)), .un], β⟩ _
  refine compG D.str (fun l => .str (nl l)) ls (big (by have := hls.2; omega)) (fun c hc k hk => ?_) ?_
  · have := (hls.1 c hc).len
    have e : (("\n" : Str)).length = 1 := rfl
    refine And.intro (big' (by omega)) ?_
    exact hk
  · refine ⟨ls.map nl, by rw [List.map_map]; rfl, nl_sum hls, rfl, q⟩
theorem ltext_ev {ds : List D} {Q : R → Prop} (h : joinSp β ds Q) : evB T Tx.bd_l_text (sta 2 ds β) (finE β Q) := by
  obtain ⟨ls, rfl, hls, q⟩ := h
  show evB T Tx.bd_l_text ⟨[.fz (.lst (sD ls)), .un], β⟩ _
  refine compG D.str (fun l => .str (nl l)) ls (big (by have := hls.2; omega)) (fun c hc k hk => ?_) ?_
  · have := (hls.1 c hc).len
    have e : (("\n" : Str)).length = 1 := rfl
    refine And.intro (big' (by omega)) ?_
    exact hk
  · refine ⟨ls.map nl, by rw [List.map_map]; rfl, nl_sum hls, rfl, q⟩
end
end K79

set_option Elab.async false
set_option linter.all false
set_option autoImplicit false
set_option maxRecDepth 100000
set_option maxHeartbeats 4000000
/-! K79g: what closes: closing, close, closes. -/
namespace K79
open PySem PySem.Spec PyProof.Rows L2 DI
inductive Pt where
  | en | fs | cs | el | al | rw
  deriving DecidableEq
def Pt.s : Pt → Str
  | .en => "end"
  | .fs => "first"
  | .cs => "case"
  | .el => "else"
  | .al => "always"
  | .rw => "rows"
inductive Sp1 where
  | pop
  | push (q : Pt)
  | set (p : Pt)
  | bad
  deriving DecidableEq
def stp : Kd → Pt → Sp1
  | .en, p => if p = .en ∨ p = .fs ∨ p = .cs then .pop else .bad
  | .op, p => if p = .fs then .bad else .push .en
  | .fi, p => if p = .fs then .bad else .push .el
  | .of, p => if p = .fs then .bad else .push .fs
  | .tr, p => if p = .fs then .bad else .push .al
  | .cs, p => if p = .fs ∨ p = .cs then .set .cs else .bad
  | .el, p => if p = .el then .set .en else .bad
  | .al, p => if p = .al then .set .en else .bad
  | .si, p => if p = .fs then .bad else .set p
  | .ca, p => if p = .al then .set .al else .bad
  | .no, _ => .bad
/-- the rows, read with the parts that are open -/
def acc : List Kd → List Pt → Bool
  | [], st => decide (st = [.rw])
  | _ :: _, [] => false
  | k :: ks, p :: st => match stp k p with
    | .pop => acc ks st
    | .push q => acc ks (q :: p :: st)
    | .set q => acc ks (q :: st)
    | .bad => false
theorem acc_cons (k : Kd) (ks : List Kd) (p : Pt) (st : List Pt) : acc (k :: ks) (p :: st) = match stp k p with
    | .pop => acc ks st
    | .push q => acc ks (q :: p :: st)
    | .set q => acc ks (q :: st)
    | .bad => false := by rw [acc]
def after (p : Pt) (st : List Pt) : List Pt := if p = .rw then .rw :: st else st
theorem stp_set {k : Kd} {p q : Pt} (h : stp k p = .set q) : (q = .rw ↔ p = .rw) := by
  cases k <;> cases p <;> (revert h; cases q <;> decide)
theorem stp_push {k : Kd} {p q : Pt} (h : stp k p = .push q) : q ≠ .rw := by
  cases k <;> cases p <;> (revert h; cases q <;> decide)
theorem stp_pop {k : Kd} {p : Pt} (h : stp k p = .pop) : p ≠ .rw := by
  cases k <;> cases p <;> (revert h; decide)
theorem after_eq {p q : Pt} (h : q = .rw ↔ p = .rw) (st : List Pt) : after q st = after p st := by
  unfold after
  by_cases e : p = .rw
  · rw [if_pos e, if_pos (h.mpr e)]
  · rw [if_neg e, if_neg fun z => e (h.mp z)]
/-- what closing answers -/
def Cl (ks : List Kd) (i : Nat) (p : Pt) : Option Nat → Prop
  | none => ∀ st, acc (ks.drop i) (p :: st) = false
  | some j => i ≤ j ∧ j ≤ ks.length ∧ (p = .rw → j = ks.length) ∧ (p ≠ .rw → i < j) ∧ ∀ st, acc (ks.drop i) (p :: st) = acc (ks.drop j) (after p st)
def resD : Option Nat → D
  | none => .non
  | some j => .int (j : Int)
section
variable {T : Tb} {β : Option Bag}
def closSp (n : Nat) : DSp := fun β ds Q => ∃ (ks : List Kd) (i : Nat) (p : Pt), ds = [.lst (kD ks), .int (i : Int), .str p.s] ∧ i ≤ ks.length ∧ ks.length - i < n ∧ ks.length ≤ 60 ∧ ∀ r, Cl ks i p r → Q (.fz (resD r))
theorem clos_mono (n : Nat) (β : Option Bag) (ds : List D) (Q Q' : R → Prop) (f : ∀ r, Q r → Q' r) (h : closSp n β ds Q) : closSp n β ds Q' := by
  obtain ⟨ks, i, p, h1, h2, h3, h4, h5⟩ := h
  exact ⟨ks, i, p, h1, h2, h3, h4, fun r hr => f _ (h5 r hr)⟩
theorem clos_ar (n : Nat) (β : Option Bag) (ds : List D) (Q : R → Prop) (h : closSp n β ds Q) : ds.length = 3 := by
  obtain ⟨ks, i, p, rfl, _⟩ := h
  rfl
theorem clos_zero (β : Option Bag) (ds : List D) (Q : R → Prop) : ¬ closSp 0 β ds Q := fun h => by
  obtain ⟨ks, i, p, _, _, h, _⟩ := h
  omega
theorem kD_at {ks : List Kd} {i : Nat} {k : Kd} (h : ks[i]? = some k) : atI (kD ks) (i : Int) = some k.d := atN (by unfold kD; rw [List.getElem?_map, h]; rfl)
def body : List CS := match Tx.bd_closing with
  | .while_ _ b :: _ => b
  | _ => []
theorem drop_at {ks : List Kd} {i : Nat} {k : Kd} (h : ks[i]? = some k) : ks.drop i = k :: ks.drop (i + 1) := by
  obtain ⟨hlt, rfl⟩ := List.getElem?_eq_some_iff.mp h
  exact List.drop_eq_getElem_cons hlt
/-- a turn -/
theorem turn {W : Program × World} {fn : Nat → DSp} {xfn : Nat → DSpX} {cn : Addr} {fx : Str} {tabs : List (Addr × Str)} {ks : List Kd} {a : Nat} {p : Pt} {k : Kd} {m3 : M} {E : En} (hk : ks[a]? = some k)
    (h1 : stp k p = .pop → E.rt (.fz (.int ((a : Int) + 1))) ⟨[.fz (.lst (kD ks)), .fz (.int ((a : Int) + 1)), .fz (.str p.s), .fz k.d], β⟩)
    (h2 : ∀ q, stp k p = .push q → fn 13 β [.lst (kD ks), .int ((a : Int) + 1), .str q.s] fun z => ∃ r, z = .fz (resD r) ∧ (r = none → E.rt (.fz .non) ⟨[.fz (.lst (kD ks)), .fz .non, .fz (.str p.s), .fz k.d], β⟩) ∧ ∀ j : Nat, r = some j → E.nx ⟨[.fz (.lst (kD ks)), .fz (.int (j : Int)), .fz (.str p.s), .fz k.d], β⟩)
    (h3 : ∀ q, stp k p = .set q → E.nx ⟨[.fz (.lst (kD ks)), .fz (.int ((a : Int) + 1)), .fz (.str q.s), .fz k.d], β⟩)
    (h4 : stp k p = .bad → E.rt (.fz .non) ⟨[.fz (.lst (kD ks)), .fz (.int ((a : Int) + 1)), .fz (.str p.s), .fz k.d], β⟩)
    (fm : ∀ β ds Q Q', (∀ r, Q r → Q' r) → fn 13 β ds Q → fn 13 β ds Q') :
    evB ⟨W, fn, glf, xfn, cn, fx, tabs, gdf⟩ body ⟨[.fz (.lst (kD ks)), .fz (.int (a : Int)), .fz (.str p.s), m3], β⟩ E := by
  refine Exists.intro _ (And.intro (kD_at hk) ?_)
  show evB ⟨W, fn, glf, xfn, cn, fx, tabs, gdf⟩ (body.drop 1) ⟨[.fz (.lst (kD ks)), .fz (.int (a : Int)), .fz (.str p.s), .fz k.d], β⟩ E
  refine And.intro ⟨_, rfl⟩ ?_
  show evB ⟨W, fn, glf, xfn, cn, fx, tabs, gdf⟩ (body.drop 2) ⟨[.fz (.lst (kD ks)), .fz (.int ((a : Int) + 1)), .fz (.str p.s), .fz k.d], β⟩ E
  cases k <;> cases p
  all_goals
    (repeat (first | refine Or.inl (And.intro (Or.inl ⟨rfl, rfl⟩) ?_) | refine And.intro (big' (by decide)) ?_ | refine And.intro (Or.inl ⟨rfl, rfl⟩) ?_))
    first
      | exact h1 rfl
      | exact h3 _ rfl
      | exact h4 rfl
      | skip
  all_goals
    refine Exists.intro _ (And.intro rfl ?_)
    show fn 13 β [.lst (kD ks), .int ((a : Int) + 1), .str _] _
    refine fm _ _ _ _ (fun z hz => ?_) (h2 _ rfl)
    obtain ⟨r, rfl, hn, hs⟩ := hz
    cases r with
    | none =>
      refine And.intro rfl ?_
      exact hn rfl
    | some j =>
      refine And.intro rfl ?_
      exact hs j rfl
theorem clos_ev {n : Nat} (hg : T.gl = glf) (hd : T.gd = gdf) (t13 : T.fn 13 = closSp n) {ds : List D} {Q : R → Prop} (h : closSp (n + 1) β ds Q) : evB T Tx.bd_closing (sta 4 ds β) (finE β Q) := by
  obtain ⟨W, fn, gl, xfn, cn, fx, tabs, gd⟩ := T
  have hg : gl = glf := hg
  have hd : gd = gdf := hd
  subst hg hd
  have t13 : fn 13 = closSp n := t13
  obtain ⟨ks, i, p, rfl, hi, hn, h200, q⟩ := h
  show evB _ Tx.bd_closing ⟨[.fz (.lst (kD ks)), .fz (.int (i : Int)), .fz (.str p.s), .un], β⟩ _
  have len : (kD ks).length = ks.length := List.length_map ..
  refine whI (fun m ρ => ∃ (a : Nat) (p' : Pt) (m3 : M), ρ = ⟨[.fz (.lst (kD ks)), .fz (.int (a : Int)), .fz (.str p'.s), m3], β⟩ ∧ m = ks.length - a ∧ i ≤ a ∧ a ≤ ks.length ∧ (p' = .rw ↔ p = .rw) ∧ ∀ st, acc (ks.drop i) (p :: st) = acc (ks.drop a) (p' :: st)) ⟨i, p, .un, rfl, rfl, Nat.le_refl _, hi, Iff.rfl, fun _ => rfl⟩ ?_
  rintro m _ K ⟨a, p', m3, rfl, rfl, ha, hal, hp, hacc⟩ ht hf
  show K (decide ((a : Int) < ((kD ks).length : Int))) _
  rw [len]
  by_cases hlt : a < ks.length
  · rw [decide_eq_true (by omega : (a : Int) < (ks.length : Int))]
    refine ht _ fun E2 hnx hct hrt hbk => ?_
    obtain ⟨k, hk⟩ : ∃ k, ks[a]? = some k := ⟨_, List.getElem?_eq_getElem hlt⟩
    have hdr := drop_at hk
    refine turn (fn := fn) hk (fun e => ?_) (fun r e => ?_) (fun r e => ?_) (fun e => ?_) (fun β ds Q Q' f h => ?_)
    · refine hrt _ _ ⟨rfl, ?_⟩
      have := q (some (a + 1)) ⟨by omega, hlt, fun z => absurd (hp.mpr z) (stp_pop e), fun _ => by omega, fun st => by
        rw [hacc, hdr, acc_cons, e]
        unfold after
        rw [if_neg fun z => stp_pop e (hp.mpr z)]⟩
      exact this
    · rw [t13]
      refine ⟨ks, a + 1, r, rfl, hlt, by omega, h200, fun o ho => ⟨o, rfl, fun e0 => ?_, fun j ej => ?_⟩⟩
      · subst e0
        refine hrt _ _ ⟨rfl, ?_⟩
        exact q none fun st => by
          rw [hacc, hdr, acc_cons, e]
          exact ho _
      · subst ej
        obtain ⟨o1, o2, o3, o4, o5⟩ := ho
        have hr := stp_push e
        have := o4 hr
        refine hnx (ks.length - j) _ (by omega) ⟨j, p', _, rfl, rfl, by omega, o2, hp, fun st => ?_⟩
        rw [hacc, hdr, acc_cons, e]
        show acc (ks.drop (a + 1)) (r :: p' :: st) = _
        rw [o5]
        unfold after
        rw [if_neg hr]
    · refine hnx (ks.length - (a + 1)) _ (by omega) ⟨a + 1, r, _, rfl, rfl, by omega, hlt, (stp_set e).trans hp, fun st => ?_⟩
      rw [hacc, hdr, acc_cons, e]
    · refine hrt _ _ ⟨rfl, ?_⟩
      exact q none fun st => by rw [hacc, hdr, acc_cons, e]
    · rw [t13] at h ⊢
      exact clos_mono n β ds Q Q' f h
  · rw [decide_eq_false (by omega : ¬ (a : Int) < (ks.length : Int))]
    refine hf _ ?_
    have ea : a = ks.length := by omega
    subst ea
    rw [List.drop_length] at hacc
    refine Or.inl (And.intro (.inl ⟨rfl, rfl⟩) ?_)
    refine ifB (fun h => ?_) fun h => ?_
    · have h : eqD (.str p'.s) (.str "rows") = true := h
      have e : p' = .rw := by
        rw [eqD_str, decide_eq_true_eq] at h
        cases p' <;> first | rfl | exact absurd h (by decide)
      have ep := hp.mp e
      refine ⟨rfl, ?_⟩
      exact q (some ks.length) ⟨hi, Nat.le_refl _, fun _ => rfl, fun z => absurd ep z, fun st => by
        rw [hacc, List.drop_length]
        unfold after
        rw [if_pos ep, e]⟩
    · have h : eqD (.str p'.s) (.str "rows") = false := h
      have e : p' ≠ .rw := fun e => by
        subst e
        rw [eqD_str, decide_eq_false_iff_not] at h
        exact h rfl
      refine ⟨rfl, ?_⟩
      exact q none fun st => by
        rw [hacc, acc]
        exact decide_eq_false fun z => by
          cases z
          exact e rfl
def closeSp : DSp := fun β ds Q => ∃ ks : List Kd, ds = [.lst (kD ks)] ∧ ks.length ≤ 60 ∧ Q (.fz (.bl (acc ks [.rw])))
theorem close_mono (β : Option Bag) (ds : List D) (Q Q' : R → Prop) (f : ∀ r, Q r → Q' r) (h : closeSp β ds Q) : closeSp β ds Q' := by
  obtain ⟨ks, h1, h2, h3⟩ := h
  exact ⟨ks, h1, h2, f _ h3⟩
theorem close_ar (β : Option Bag) (ds : List D) (Q : R → Prop) (h : closeSp β ds Q) : ds.length = 1 := by
  obtain ⟨ks, rfl, _⟩ := h
  rfl
theorem close_ev (t13 : T.fn 13 = closSp 61) {ds : List D} {Q : R → Prop} (h : closeSp β ds Q) : evB T Tx.bd_close (sta 1 ds β) (finE β Q) := by
  obtain ⟨ks, rfl, h200, q⟩ := h
  show evB T Tx.bd_close ⟨[.fz (.lst (kD ks))], β⟩ _
  show T.fn 13 β [.lst (kD ks), .int 0, .str "rows"] _
  rw [t13]
  refine ⟨ks, 0, .rw, rfl, Nat.zero_le _, by omega, h200, fun r hr => ?_⟩
  cases r with
  | none =>
    refine And.intro rfl ?_
    refine ⟨rfl, ?_⟩
    have := hr []
    rw [List.drop_zero] at this
    rw [this] at q
    exact q
  | some j =>
    refine And.intro rfl ?_
    refine ⟨rfl, ?_⟩
    obtain ⟨_, _, o3, _, o5⟩ := hr
    have := o5 []
    rw [o3 rfl, List.drop_zero, List.drop_length] at this
    rw [this] at q
    exact q
def closesSp : DSp := fun β ds Q => ∃ ls : List Str, ds = [.str (textOf ls)] ∧ Lns ls ∧ Q (.fz (.bl (acc (ls.map kind) [.rw])))
theorem closes_mono (β : Option Bag) (ds : List D) (Q Q' : R → Prop) (f : ∀ r, Q r → Q' r) (h : closesSp β ds Q) : closesSp β ds Q' := by
  obtain ⟨ks, h1, h2, h3⟩ := h
  exact ⟨ks, h1, h2, f _ h3⟩
theorem closes_ar (β : Option Bag) (ds : List D) (Q : R → Prop) (h : closesSp β ds Q) : ds.length = 1 := by
  obtain ⟨ks, rfl, _⟩ := h
  rfl
theorem closes_ev (t3 : T.fn 3 = kindsSp) (t14 : T.fn 14 = closeSp) {ds : List D} {Q : R → Prop} (h : closesSp β ds Q) : evB T Tx.bd_closes (sta 1 ds β) (finE β Q) := by
  obtain ⟨ls, rfl, hls, q⟩ := h
  show evB T Tx.bd_closes ⟨[.fz (.str (textOf ls))], β⟩ _
  show T.fn 3 β [.str (textOf ls)] _
  rw [t3]
  refine ⟨ls, rfl, hls, ?_⟩
  show T.fn 14 β [.lst (kD (ls.map kind))] _
  rw [t14]
  exact ⟨_, rfl, by rw [List.length_map]; have := hls.2; omega, rfl, q⟩
end
end K79

set_option Elab.async false
set_option linter.all false
set_option autoImplicit false
set_option maxRecDepth 100000
set_option maxHeartbeats 4000000
/-! K79h: the law's own close. -/
namespace K79
open PySem PySem.Spec PyProof.Rows L2 DI
/-- the part that a kind upon the law's stack stands for -/
def pt : Kd → Pt
  | .op => .en
  | .fi => .el
  | .el => .en
  | .of => .fs
  | .cs => .cs
  | .tr => .al
  | .ca => .al
  | _ => .en
def good : Kd → Bool
  | .op | .fi | .el | .of | .cs | .tr | .ca | .al => true
  | _ => false
def pst (stk : List Kd) : List Pt := stk.reverse.map pt ++ [.rw]
def top (stk : List Kd) : Pt := match stk.getLast? with
  | none => .rw
  | some t => pt t
def lstp (k : Kd) (stk : List Kd) : Option (List Kd) := match stp k (top stk) with
  | .pop => some stk.dropLast
  | .push _ => some (stk ++ [k])
  | .set _ => if k = .si then some stk else some (stk.dropLast ++ [k])
  | .bad => none
theorem top_snoc (s : List Kd) (t : Kd) : top (s ++ [t]) = pt t := by unfold top; rw [List.getLast?_concat]
theorem pst_snoc (s : List Kd) (t : Kd) : pst (s ++ [t]) = pt t :: pst s := by unfold pst; rw [List.reverse_append]; rfl
theorem lstp_nil (k : Kd) (ks : List Kd) : acc (k :: ks) (pst []) = (match lstp k [] with
    | some s' => acc ks (pst s')
    | none => false) ∧ ∀ s', lstp k [] = some s' → s'.all good = true ∧ s'.length ≤ 1 := by
  have e : pst [] = [.rw] := rfl
  rw [e, acc_cons]
  cases k <;> refine ⟨rfl, fun s' h => ?_⟩ <;> first | (cases h; done) | (cases h; exact ⟨rfl, by decide⟩)
theorem lstp_snoc (k t : Kd) (s ks : List Kd) (ht : good t = true) : acc (k :: ks) (pst (s ++ [t])) = (match lstp k (s ++ [t]) with
    | some s' => acc ks (pst s')
    | none => false) ∧ ∀ s', lstp k (s ++ [t]) = some s' → (s.all good = true → s'.all good = true) ∧ s'.length ≤ s.length + 2 := by
  unfold lstp
  rw [pst_snoc, acc_cons, top_snoc, List.dropLast_concat]
  cases t <;> first | (cases ht; done) | skip
  all_goals
    cases k
    all_goals
      refine ⟨?_, fun s' h => ?_⟩
      · first
          | rfl
          | (show acc ks (_ :: _ :: pst s) = acc ks (pst ((s ++ [_]) ++ [_])); rw [pst_snoc, pst_snoc]; try rfl; done)
          | (show acc ks (_ :: pst s) = acc ks (pst (s ++ [_])); rw [pst_snoc]; try rfl; done)
      · first
          | (cases h; done)
          | (have h := Option.some.inj h
             subst h
             refine ⟨fun hs => ?_, ?_⟩
             · first | exact hs | (rw [List.all_append, hs]; rfl) | (rw [List.all_append, List.all_append, hs]; rfl)
             · simp)
theorem pst_nil_iff {stk : List Kd} : acc [] (pst stk) = stk.isEmpty := by
  rw [acc]
  rcases List.eq_nil_or_concat stk with rfl | ⟨s, t, rfl⟩
  · rfl
  · rw [List.concat_eq_append] at *
    rw [pst_snoc]
    have : (s ++ [t]).isEmpty = false := by simp
    rw [this]
    refine decide_eq_false fun z => ?_
    have := congrArg List.length z
    unfold pst at this
    simp at this
end K79

set_option Elab.async false
set_option linter.all false
set_option autoImplicit false
set_option maxRecDepth 100000
set_option maxHeartbeats 4000000
/-! K79i: the law's own close, walked. -/
namespace K79
open PySem PySem.Spec PyProof.Rows L2 DI
def lbody : List CS := match Tx.bd_l_close with
  | _ :: .for_ _ _ b :: _ => b
  | _ => []
def nx4 : List (D × D) := [(.str "if", .lst [.str "else"]), (.str "of", .lst [.str "case"]), (.str "case", .lst [.str "case"]), (.str "try", .lst [.str "catch", .str "always"])]
def nxt : List (D × D) := nx4 ++ [(.str "catch", .lst [.str "catch", .str "always"])]
theorem nx_put : putDD nx4 (.inr "catch") (.lst [.str "catch", .str "always"]) = nxt := by kernel_rfl
theorem kD_snoc (s : List Kd) (t : Kd) : kD (s ++ [t]) = kD s ++ [t.d] := by unfold kD; rw [List.map_append]; rfl
theorem kD_len (s : List Kd) : (kD s).length = s.length := List.length_map ..
theorem at_last (xs : List D) (x : D) : atI (xs ++ [x]) (-1) = some x := by
  unfold atI ixN
  simp
  rw [if_pos (by omega)]
  show (xs ++ [x])[(-1 + ((xs.length : Int) + 1)).toNat]? = _
  rw [show (-1 + ((xs.length : Int) + 1)).toNat = xs.length by omega, List.getElem?_append_right (Nat.le_refl _), Nat.sub_self]
  rfl
theorem last_at (xs : List D) (x : D) : (xs ++ [x])[(xs ++ [x]).length - 1]? = some x := by
  rw [List.length_append, List.length_singleton, Nat.add_sub_cancel, List.getElem?_append_right (Nat.le_refl _), Nat.sub_self]
  rfl
theorem ix_last (xs : List D) (x : D) : ixN (xs ++ [x]).length (-1) = some xs.length := by
  unfold ixN
  simp
  try omega
theorem set_last (xs : List D) (x y : D) : (xs ++ [x]).set xs.length y = xs ++ [y] := by
  rw [List.set_append_right _ _ (Nat.le_refl _), Nat.sub_self]
  rfl
section
variable {T : Tb} {β : Option Bag}
theorem lrest {ks s : List Kd} {k t : Kd} {E : En} (ht : good t = true) (hl : s.length ≤ 60)
    (h : ∀ s', lstp k (s ++ [t]) = some s' → E.nx ⟨[.fz (.lst (kD ks)), .ow (.lst (kD s')), .fz k.d, .fz t.d, .ow (.dct nxt)], β⟩)
    (hb : lstp k (s ++ [t]) = none → E.rt (.fz (.bl false)) ⟨[.fz (.lst (kD ks)), .ow (.lst (kD s ++ [t.d])), .fz k.d, .fz t.d, .ow (.dct nxt)], β⟩) :
    evB T (lbody.drop 3) ⟨[.fz (.lst (kD ks)), .ow (.lst (kD s ++ [t.d])), .fz k.d, .fz t.d, .ow (.dct nxt)], β⟩ E := by
  unfold lstp at h hb
  rw [top_snoc, List.dropLast_concat] at h hb
  cases t <;> first | (cases ht; done) | skip
  all_goals
    cases k
  all_goals
    (repeat (first | refine Or.inl (And.intro (Or.inl ⟨rfl, rfl⟩) ?_) | refine And.intro (big' (by decide)) ?_ | refine And.intro (Or.inl ⟨rfl, rfl⟩) ?_))
    first
      | exact hb rfl
      | (refine And.intro ⟨_, rfl⟩ ?_
         refine Exists.intro _ (And.intro (last_at _ _) ?_)
         have z := h _ rfl
         show E.nx ⟨[_, .ow (.lst ((kD s ++ [_]).dropLast)), _, _, _], β⟩
         rw [List.dropLast_concat]
         exact z)
      | (refine And.intro ⟨_, rfl⟩ ?_
         (repeat (first | refine Or.inl (And.intro (Or.inl ⟨rfl, rfl⟩) ?_) | refine And.intro (big' (by decide)) ?_ | refine And.intro (Or.inl ⟨rfl, rfl⟩) ?_))
         first
           | exact hb rfl
           | (refine And.intro ⟨_, rfl⟩ ?_
              refine Exists.intro _ (And.intro (ix_last _ _) ?_)
              have z := h _ rfl
              show E.nx ⟨[_, .ow (.lst ((kD s ++ [_]).set (kD s).length _)), _, _, _], β⟩
              rw [set_last]
              rw [kD_snoc] at z
              exact z))
      | (refine And.intro (by decide) (And.intro (by decide) (And.intro (big' (by decide +kernel)) ?_))
         refine And.intro (by
           show (kD s ++ [_]).length + _ ≤ sizeLine
           rw [List.length_append, kD_len]
           refine big' ?_
           show s.length + 1 + _ ≤ _
           first
             | (show s.length + 1 + 1 ≤ 100000; omega)
             | (show s.length + 1 + 0 ≤ 100000; omega)) ?_
         have z := h _ rfl
         first
           | (rw [kD_snoc, kD_snoc] at z; exact z)
           | (rw [kD_snoc] at z
              rw [← List.append_nil (kD s ++ [_])] at z
              exact z))
theorem lrest0 {ks : List Kd} {k : Kd} {E : En}
    (h : ∀ s', lstp k [] = some s' → E.nx ⟨[.fz (.lst (kD ks)), .ow (.lst (kD s')), .fz k.d, .fz (.str "rows"), .ow (.dct nxt)], β⟩)
    (hb : lstp k [] = none → E.rt (.fz (.bl false)) ⟨[.fz (.lst (kD ks)), .ow (.lst []), .fz k.d, .fz (.str "rows"), .ow (.dct nxt)], β⟩) :
    evB T (lbody.drop 3) ⟨[.fz (.lst (kD ks)), .ow (.lst []), .fz k.d, .fz (.str "rows"), .ow (.dct nxt)], β⟩ E := by
  cases k
  all_goals
    (repeat (first | refine Or.inl (And.intro (Or.inl ⟨rfl, rfl⟩) ?_) | refine And.intro (big' (by decide)) ?_ | refine And.intro (Or.inl ⟨rfl, rfl⟩) ?_))
    first
      | exact hb rfl
      | (refine And.intro ⟨_, rfl⟩ ?_
         (repeat (first | refine Or.inl (And.intro (Or.inl ⟨rfl, rfl⟩) ?_) | refine And.intro (big' (by decide)) ?_ | refine And.intro (Or.inl ⟨rfl, rfl⟩) ?_))
         exact hb rfl)
      | (refine And.intro (by decide) (And.intro (by decide) (And.intro (big' (by decide +kernel)) ?_))
         refine And.intro (big' (by decide +kernel)) ?_
         exact h _ rfl)
theorem lturn {ks stk : List Kd} {k : Kd} {m3 m4 : M} {E : En} (hs : stk.all good = true) (hl : stk.length ≤ 60)
    (h : ∀ s', lstp k stk = some s' → ∀ m3 m4, E.nx ⟨[.fz (.lst (kD ks)), .ow (.lst (kD s')), .fz k.d, m3, m4], β⟩)
    (hb : lstp k stk = none → ∀ ρ : Sta, ρ.bag = β → E.rt (.fz (.bl false)) ρ) :
    evB T lbody ⟨[.fz (.lst (kD ks)), .ow (.lst (kD stk)), .fz k.d, m3, m4], β⟩ E := by
  have tail : ∀ t : D, (evB T (lbody.drop 3) ⟨[.fz (.lst (kD ks)), .ow (.lst (kD stk)), .fz k.d, .fz t, .ow (.dct nxt)], β⟩ E) → evB T (lbody.drop 1) ⟨[.fz (.lst (kD ks)), .ow (.lst (kD stk)), .fz k.d, .fz t, m4], β⟩ E := fun t q => by
    iterate 4 refine And.intro (big' (by decide)) ?_
    refine And.intro rfl (And.intro (by decide +kernel) (ifF ?_))
    show evB T (lbody.drop 2) ⟨[.fz (.lst (kD ks)), .ow (.lst (kD stk)), .fz k.d, .fz t, .ow (.dct nx4)], β⟩ E
    refine And.intro (big' (by decide)) ?_
    refine And.intro ⟨_, rfl⟩ ?_
    refine And.intro (big (by decide)) ?_
    show evB T (lbody.drop 3) ⟨[.fz (.lst (kD ks)), .ow (.lst (kD stk)), .fz k.d, .fz t, .ow (.dct (putDD nx4 (.inr "catch") (.lst [.str "catch", .str "always"])))], β⟩ E
    rw [nx_put]
    exact q
  refine And.intro (big' (by decide)) ?_
  refine Or.inl (And.intro (nil_eqOk _) ?_)
  show (if (!eqD (.lst (kD stk)) (.lst [])) = true then _ else _)
  rw [eqD_nil]
  rcases List.eq_nil_or_concat stk with rfl | ⟨s, t, e⟩
  · refine tail (.str "rows") ?_
    exact lrest0 (fun s' e => h s' e _ _) fun e => hb e _ rfl
  · rw [List.concat_eq_append] at e
    subst e
    have ne : (kD (s ++ [t])).isEmpty = false := by rw [kD_snoc]; simp
    rw [ne]
    refine ifT ?_
    rw [kD_snoc]
    refine Exists.intro _ (And.intro (at_last _ _) ?_)
    rw [← kD_snoc]
    refine tail t.d ?_
    rw [kD_snoc]
    have ht : good t = true := by
      rw [List.all_append, Bool.and_eq_true] at hs
      simpa using hs.2
    exact lrest ht (by rw [List.length_append] at hl; omega) (fun s' e => h s' e _ _) fun e => hb e _ rfl
end
end K79

set_option Elab.async false
set_option linter.all false
set_option autoImplicit false
set_option maxRecDepth 100000
set_option maxHeartbeats 4000000
/-! K79j: the law's own close: whole. -/
namespace K79
open PySem PySem.Spec PyProof.Rows L2 DI
section
variable {T : Tb} {β : Option Bag}
theorem kD_get {ks : List Kd} {i : Nat} {d : D} (h : (kD ks)[i]? = some d) : ∃ k, ks[i]? = some k ∧ d = k.d := by
  unfold kD at h
  rw [List.getElem?_map] at h
  cases e : ks[i]? with
  | none => rw [e] at h; cases h
  | some k => rw [e] at h; cases h; exact ⟨k, rfl, rfl⟩
theorem lstp_ok {k : Kd} {stk ks : List Kd} (hs : stk.all good = true) : acc (k :: ks) (pst stk) = (match lstp k stk with
    | some s' => acc ks (pst s')
    | none => false) ∧ ∀ s', lstp k stk = some s' → s'.all good = true ∧ s'.length ≤ stk.length + 1 := by
  rcases List.eq_nil_or_concat stk with rfl | ⟨s, t, e⟩
  · exact lstp_nil k ks
  · rw [List.concat_eq_append] at e
    subst e
    rw [List.all_append, Bool.and_eq_true] at hs
    obtain ⟨q1, q2⟩ := lstp_snoc k t s ks (by simpa using hs.2)
    refine ⟨q1, fun s' h => ?_⟩
    obtain ⟨z1, z2⟩ := q2 s' h
    exact ⟨z1 hs.1, by rw [List.length_append]; simpa using z2⟩
theorem lclose_ev {ds : List D} {Q : R → Prop} (h : closeSp β ds Q) : evB T Tx.bd_l_close (sta 5 ds β) (finE β Q) := by
  obtain ⟨ks, rfl, h60, q⟩ := h
  show evB T Tx.bd_l_close ⟨[.fz (.lst (kD ks)), .un, .un, .un, .un], β⟩ _
  refine And.intro (big' (by decide)) ?_
  refine forI (fun i ρ => ∃ (stk : List Kd) (m2 m3 m4 : M), ρ = ⟨[.fz (.lst (kD ks)), .ow (.lst (kD stk)), m2, m3, m4], β⟩ ∧ stk.all good = true ∧ stk.length ≤ i ∧ acc ks [.rw] = acc (ks.drop i) (pst stk)) ⟨[], .un, .un, .un, rfl, rfl, Nat.le_refl _, rfl⟩ ?_ ?_
  · rintro i d _ E2 hd ⟨stk, m2, m3, m4, rfl, hs, hl, ha⟩ hn hc hr -
    obtain ⟨k, hk, rfl⟩ := kD_get hd
    have hi : i < ks.length := (List.getElem?_eq_some_iff.mp hk).1
    rw [drop_at hk] at ha
    obtain ⟨q1, q2⟩ := lstp_ok (k := k) (ks := ks.drop (i + 1)) hs
    refine lturn (k := k) hs (by omega) (fun s' e m3' m4' => ?_) fun e ρ hρ => ?_
    · obtain ⟨z1, z2⟩ := q2 s' e
      refine hn _ ⟨s', _, _, _, rfl, z1, by omega, ?_⟩
      rw [ha, q1, e]
    · refine hr _ _ ⟨hρ, ?_⟩
      rw [ha, q1, e] at q
      exact q
  · rintro _ ⟨stk, m2, m3, m4, rfl, hs, hl, ha⟩
    rw [kD_len, List.drop_length, pst_nil_iff] at ha
    refine And.intro (big' (by decide)) ?_
    refine Or.inl (And.intro (nil_eqOk _) ?_)
    refine ⟨rfl, ?_⟩
    show Q (.fz (.bl (eqD (.lst (kD stk)) (.lst []))))
    rw [eqD_nil]
    rw [ha] at q
    have : (kD stk).isEmpty = stk.isEmpty := by cases stk <;> rfl
    rw [this]
    exact q
end
end K79

set_option Elab.async false
set_option linter.all false
set_option autoImplicit false
set_option maxRecDepth 100000
set_option maxHeartbeats 4000000
/-! K79m: what a part costs: ends, turns, blocks. -/
namespace K79
open PySem PySem.Spec PyProof.Rows L2 DI
structure Ky where
  p : Pt
  b : Nat
  e : Nat
  deriving DecidableEq
def Ky.d (k : Ky) : D := .tup [.str k.p.s, .int (k.b : Int), .int (k.e : Int)]
def Ky.nk (k : Ky) : NestedKey := .tup [.text k.p.s, .num (k.b : Int), .num (k.e : Int)]
theorem Ky.d_nk (k : Ky) : k.d.nk = some k.nk := rfl
theorem Ky.dep (k : Ky) : k.nk.depth ≤ 8 := by
  unfold Ky.nk
  simp [NestedKey.depth, NestedKey.depthAll]
theorem pt_inj {p q : Pt} (h : p.s = q.s) : p = q := by
  cases p <;> cases q <;> first | rfl | exact absurd h (by decide)
theorem Ky.nk_inj {j k : Ky} (h : j.nk = k.nk) : j = k := by
  obtain ⟨p, b, e⟩ := j
  obtain ⟨p', b', e'⟩ := k
  unfold Ky.nk at h
  simp only [NestedKey.tup.injEq, List.cons.injEq, NestedKey.text.injEq, NestedKey.num.injEq, and_true] at h
  obtain ⟨h1, h2, h3⟩ := h
  cases pt_inj h1
  have : b = b' := by omega
  have : e = e' := by omega
  subst_vars
  rfl
def endsK (ks : List Kd) (k : Ky) : List Nat :=
  (if k.p = .rw ∧ k.b = k.e then [0] else []) ++ (if k.p = .en ∨ k.p = .fs ∨ k.p = .cs then (if k.b = k.e then [1] else []) ++ (if k.e = k.b + 1 ∧ ks[k.b]? = some .en then [0] else []) else [])
def hereK (ks : List Kd) (k : Ky) : Kd := if k.b < k.e then (ks[k.b]?).getD .no else .no
def turnsF (h : Kd) (lt : Bool) (p : Pt) (b e : Nat) : List (Nat × Ky) :=
  (if lt = true then [(1, ⟨p, b + 1, e⟩)] else []) ++
  (if h = .si ∧ p ≠ .fs then [(0, ⟨p, b + 1, e⟩)] else []) ++
  (if h = .cs ∧ (p = .fs ∨ p = .cs) then [(0, ⟨.cs, b + 1, e⟩)] else []) ++
  (if p = .el ∨ p = .al then [(1, ⟨.en, b, e⟩)] ++ (if (h = .el ∧ p = .el) ∨ (h = .al ∧ p = .al) then [(0, ⟨.en, b + 1, e⟩)] else []) else []) ++
  (if h = .ca ∧ p = .al then [(0, ⟨.al, b + 1, e⟩)] else [])
def turnsK (ks : List Kd) (k : Ky) : List (Nat × Ky) := turnsF (hereK ks k) (decide (k.b < k.e)) k.p k.b k.e
def innerK : Kd → Option Pt
  | .op => some .en
  | .fi => some .el
  | .of => some .fs
  | .tr => some .al
  | _ => none
def blocksF (h : Kd) (p : Pt) (b e : Nat) : List (Ky × Ky) :=
  if p = .fs then [] else match innerK h with
  | none => []
  | some i => (List.range (e - b)).map fun j => (⟨i, b + 1, b + 1 + j⟩, ⟨p, b + 1 + j, e⟩)
def blocksK (ks : List Kd) (k : Ky) : List (Ky × Ky) := blocksF (hereK ks k) k.p k.b k.e
def bndK (ks : List Kd) (tb : Ky → Nat) (k : Ky) : List Nat :=
  endsK ks k ++ (turnsK ks k).map (fun t => t.1 + tb t.2) ++ (blocksK ks k).map (fun t => tb t.1 + tb t.2)
/-- keys that stand in a text of n lines -/
def Ky.ok (n : Nat) (k : Ky) : Prop := k.b ≤ k.e ∧ k.e ≤ n
def Ky.rk (k : Ky) : Nat := 2 * (k.e - k.b) + (if k.p = .el ∨ k.p = .al then 1 else 0)
/-- j is asked for k -/
def low (j k : Ky) : Prop := j.e - j.b < k.e - k.b ∨ (j.b = k.b ∧ j.e = k.e ∧ j.p = .en ∧ (k.p = .el ∨ k.p = .al))
theorem low_rk {j k : Ky} (h : low j k) : j.rk < k.rk := by
  unfold Ky.rk
  rcases h with h | ⟨h1, h2, h3, h4⟩
  · split <;> split <;> omega
  · rw [if_pos h4, h3, if_neg (by decide), h1, h2]
    omega
theorem here_no {ks : List Kd} {k : Ky} (h : hereK ks k ≠ .no) : k.b < k.e := by
  unfold hereK at h
  by_cases hb : k.b < k.e
  · exact hb
  · rw [if_neg hb] at h
    exact absurd rfl h
theorem turns_low {ks : List Kd} {k : Ky} {n : Nat} (h : k.ok n) {t : Nat × Ky} (ht : t ∈ turnsK ks k) : t.2.ok n ∧ low t.2 k := by
  obtain ⟨h1, h2⟩ := h
  have hn := here_no (ks := ks) (k := k)
  unfold turnsK at ht
  generalize hereK ks k = hh at ht hn
  obtain ⟨p, b, e⟩ := k
  simp only at h1 h2 ht hn
  have hq : ∀ q : Pt, b < e → (⟨q, b + 1, e⟩ : Ky).ok n ∧ low ⟨q, b + 1, e⟩ ⟨p, b, e⟩ := fun q hb => by
    refine ⟨⟨hb, h2⟩, .inl ?_⟩
    show e - (b + 1) < e - b
    omega
  unfold turnsF at ht
  simp only [List.mem_append] at ht
  rcases ht with (((ht | ht) | ht) | ht) | ht
  · by_cases hb : b < e
    · rw [decide_eq_true hb, if_pos rfl, List.mem_singleton] at ht
      subst ht
      exact hq p hb
    · rw [decide_eq_false hb, if_neg (by decide)] at ht
      cases ht
  · split at ht
    · rename_i hc
      rw [List.mem_singleton] at ht
      subst ht
      exact hq p (hn (by rw [hc.1]; decide))
    · cases ht
  · split at ht
    · rename_i hc
      rw [List.mem_singleton] at ht
      subst ht
      exact hq .cs (hn (by rw [hc.1]; decide))
    · cases ht
  · split at ht
    · rename_i hc
      rcases List.mem_append.mp ht with ht | ht
      · rw [List.mem_singleton] at ht
        subst ht
        exact ⟨⟨h1, h2⟩, .inr ⟨rfl, rfl, rfl, hc⟩⟩
      · split at ht
        · rename_i hd
          rw [List.mem_singleton] at ht
          subst ht
          refine hq .en (hn ?_)
          rcases hd with hd | hd <;> (rw [hd.1]; decide)
        · cases ht
    · cases ht
  · split at ht
    · rename_i hc
      rw [List.mem_singleton] at ht
      subst ht
      exact hq .al (hn (by rw [hc.1]; decide))
    · cases ht
theorem blocks_low {ks : List Kd} {k : Ky} {n : Nat} (h : k.ok n) {t : Ky × Ky} (ht : t ∈ blocksK ks k) : (t.1.ok n ∧ low t.1 k) ∧ t.2.ok n ∧ low t.2 k := by
  obtain ⟨h1, h2⟩ := h
  have hn := here_no (ks := ks) (k := k)
  unfold blocksK at ht
  generalize hereK ks k = hh at ht hn
  obtain ⟨p, b, e⟩ := k
  simp only at h1 h2 ht hn
  unfold blocksF at ht
  split at ht
  · cases ht
  · split at ht
    · cases ht
    · rename_i i hi
      rw [List.mem_map] at ht
      obtain ⟨j, hj, rfl⟩ := ht
      rw [List.mem_range] at hj
      refine ⟨⟨⟨by simp only; omega, by simp only; omega⟩, .inl (by simp only; omega)⟩, ⟨by simp only; omega, by simp only; omega⟩, .inl (by simp only; omega)⟩
theorem bnd_ne (ks : List Kd) (tb : Ky → Nat) {k : Ky} (h : k.b ≤ k.e) : bndK ks tb k ≠ [] := by
  obtain ⟨p, b, e⟩ := k
  simp only at h
  unfold bndK
  by_cases hb : b < e
  · have : (1, (⟨p, b + 1, e⟩ : Ky)) ∈ turnsK ks ⟨p, b, e⟩ := by
      unfold turnsK turnsF
      simp [hb]
    intro z
    rw [List.append_eq_nil_iff, List.append_eq_nil_iff, List.map_eq_nil_iff] at z
    rw [z.1.2] at this
    cases this
  · have hb : b = e := by omega
    subst hb
    cases p <;> simp [endsK, turnsK, turnsF]
/-! ### the parts one by one -/
def kyD (ts : List (Nat × Ky)) : List D := ts.map fun t => .tup [.int (t.1 : Int), t.2.d]
def kkD (ts : List (Ky × Ky)) : List D := ts.map fun t => .tup [t.1.d, t.2.d]
theorem ifI {i j : Int} {x y : Prop} (h1 : i = j → x) (h2 : i ≠ j → y) : if eqD (.int i) (.int j) = true then x else y := by
  rw [eqD_int]
  by_cases h : i = j
  · rw [decide_eq_true h, if_pos rfl]; exact h1 h
  · rw [decide_eq_false h, if_neg (by decide)]; exact h2 h
theorem ifL {i j : Int} {x y : Prop} (h1 : i < j → x) (h2 : ¬ i < j → y) : if decide (i < j) = true then x else y := by
  by_cases h : i < j
  · rw [decide_eq_true h, if_pos rfl]; exact h1 h
  · rw [decide_eq_false h, if_neg (by decide)]; exact h2 h
section
variable {T : Tb} {β : Option Bag}
def argsK (ks : List Kd) (k : Ky) : List D := [.str k.p.s, .lst (kD ks), .int (k.b : Int), .int (k.e : Int)]
def endsSp : DSp := fun β ds Q => ∃ (ks : List Kd) (k : Ky), ds = argsK ks k ∧ k.ok ks.length ∧ ks.length ≤ 60 ∧ Q (.ow (.lst (nD (endsK ks k))))
theorem ends_mono (β : Option Bag) (ds : List D) (Q Q' : R → Prop) (f : ∀ r, Q r → Q' r) (h : endsSp β ds Q) : endsSp β ds Q' := by
  obtain ⟨ks, k, h1, h2, h3, h4⟩ := h
  exact ⟨ks, k, h1, h2, h3, f _ h4⟩
theorem ends_ar (β : Option Bag) (ds : List D) (Q : R → Prop) (h : endsSp β ds Q) : ds.length = 4 := by
  obtain ⟨ks, k, rfl, _⟩ := h
  rfl
theorem d_end {k : Kd} : eqD k.d (.str "end") = decide (k = .en) := by
  cases k <;> first | rfl | (show eqD (.str _) (.str _) = _; rw [eqD_str]; decide)
theorem kd_pf (k : Kd) : k.d.pf = true := by cases k <;> rfl
theorem ends_ev {ds : List D} {Q : R → Prop} (h : endsSp β ds Q) : evB T Tx.bd_ends_here (sta 5 ds β) (finE β Q) := by
  obtain ⟨ks, ⟨p, b, e⟩, rfl, ⟨h1, h2⟩, h60, q⟩ := h
  simp only at h1 h2
  show evB T Tx.bd_ends_here ⟨[.fz (.str p.s), .fz (.lst (kD ks)), .fz (.int (b : Int)), .fz (.int (e : Int)), .un], β⟩ _
  refine And.intro (big' (by decide)) ?_
  have two : ∀ p : Pt, p = .en ∨ p = .fs ∨ p = .cs → Q (.ow (.lst (nD (endsK ks ⟨p, b, e⟩)))) → evB T [.ite (.cmp .eq (.var 2) (.var 3)) [.expr (.mut .append 4 (.cons (.con (.int 1)) .nil))] [], .ite (.and (.cmp .eq (.var 3) (.op2 .add (.var 2) (.con (.int 1)))) (.cmp .eq (.op2 .ix (.var 1) (.var 2)) (.con (.str "end")))) [.expr (.mut .append 4 (.cons (.con (.int 0)) .nil))] []] ⟨[.fz (.str p.s), .fz (.lst (kD ks)), .fz (.int (b : Int)), .fz (.int (e : Int)), .ow (.lst [])], β⟩ { finE β Q with nx := fun ρ1 => evB T [.ret (.var 4)] ρ1 (finE β Q) } := fun p hp q => by
    have hr : p ≠ .rw := by rintro rfl; simp at hp
    refine Or.inl (And.intro (Or.inl ⟨rfl, rfl⟩) ?_)
    refine ifI (fun h => ?_) fun h => ?_
    · have h : b = e := by omega
      subst h
      (repeat (first | refine Or.inl (And.intro (Or.inl ⟨rfl, rfl⟩) ?_) | refine And.intro (by (first | exact big' (by decide) | exact big (by decide) | exact big' (by simp; done) | exact big (by simp; done))) ?_ | refine And.intro (Or.inl ⟨rfl, rfl⟩) ?_ | refine And.intro ⟨_, rfl⟩ ?_))
      refine ifI (fun h => ?_) fun h => ?_
      · exact absurd h (by omega)
      · have e1 : endsK ks ⟨p, b, b⟩ = [1] := by simp [endsK, hr, hp]
        rw [e1] at q
        exact ⟨rfl, q⟩
    · have hbe : b ≠ e := by omega
      refine Or.inl (And.intro (Or.inl ⟨rfl, rfl⟩) ?_)
      refine ifI (fun h' => ?_) fun h' => ?_
      · have he : e = b + 1 := by omega
        obtain ⟨k, hk⟩ : ∃ k, ks[b]? = some k := ⟨_, List.getElem?_eq_getElem (by omega)⟩
        refine Exists.intro _ (And.intro (kD_at hk) ?_)
        refine Or.inl (And.intro (Or.inl ⟨kd_pf k, rfl⟩) ?_)
        refine ifB (fun hx => ?_) fun hx => ?_
        · have hx : eqD k.d (.str "end") = true := hx
          rw [d_end, decide_eq_true_eq] at hx
          (repeat (first | refine Or.inl (And.intro (Or.inl ⟨rfl, rfl⟩) ?_) | refine And.intro (by (first | exact big' (by decide) | exact big (by decide) | exact big' (by simp; done) | exact big (by simp; done))) ?_ | refine And.intro (Or.inl ⟨rfl, rfl⟩) ?_ | refine And.intro ⟨_, rfl⟩ ?_))
          have e1 : endsK ks ⟨p, b, e⟩ = [0] := by simp [endsK, hr, hp, he, hk, hx]
          rw [e1] at q
          exact ⟨rfl, q⟩
        · have hx : eqD k.d (.str "end") = false := hx
          rw [d_end, decide_eq_false_iff_not] at hx
          have e1 : endsK ks ⟨p, b, e⟩ = [] := by simp [endsK, hr, he, hk, hx]
          rw [e1] at q
          exact ⟨rfl, q⟩
      · have he : e ≠ b + 1 := by omega
        have e1 : endsK ks ⟨p, b, e⟩ = [] := by simp [endsK, hr, hbe, he]
        rw [e1] at q
        exact ⟨rfl, q⟩
  cases p
  case rw =>
    refine Or.inl (And.intro (Or.inl ⟨rfl, rfl⟩) ?_)
    refine Or.inl (And.intro (Or.inl ⟨rfl, rfl⟩) ?_)
    refine ifI (fun h => ?_) fun h => ?_
    · have h : b = e := by omega
      subst h
      (repeat (first | refine Or.inl (And.intro (Or.inl ⟨rfl, rfl⟩) ?_) | refine And.intro (by (first | exact big' (by decide) | exact big (by decide) | exact big' (by simp; done) | exact big (by simp; done))) ?_ | refine And.intro (Or.inl ⟨rfl, rfl⟩) ?_ | refine And.intro ⟨_, rfl⟩ ?_))
      have e1 : endsK ks ⟨.rw, b, b⟩ = [0] := by simp [endsK]
      rw [e1] at q
      exact ⟨rfl, q⟩
    · have h : b ≠ e := by omega
      (repeat (first | refine Or.inl (And.intro (Or.inl ⟨rfl, rfl⟩) ?_) | refine And.intro (by (first | exact big' (by decide) | exact big (by decide) | exact big' (by simp; done) | exact big (by simp; done))) ?_ | refine And.intro (Or.inl ⟨rfl, rfl⟩) ?_ | refine And.intro ⟨_, rfl⟩ ?_))
      have e1 : endsK ks ⟨.rw, b, e⟩ = [] := by simp [endsK, h]
      rw [e1] at q
      exact ⟨rfl, q⟩
  case el =>
    (repeat (first | refine Or.inl (And.intro (Or.inl ⟨rfl, rfl⟩) ?_) | refine And.intro (by (first | exact big' (by decide) | exact big (by decide) | exact big' (by simp; done) | exact big (by simp; done))) ?_ | refine And.intro (Or.inl ⟨rfl, rfl⟩) ?_ | refine And.intro ⟨_, rfl⟩ ?_))
    have e1 : endsK ks ⟨.el, b, e⟩ = [] := by simp [endsK]
    rw [e1] at q
    exact ⟨rfl, q⟩
  case al =>
    (repeat (first | refine Or.inl (And.intro (Or.inl ⟨rfl, rfl⟩) ?_) | refine And.intro (by (first | exact big' (by decide) | exact big (by decide) | exact big' (by simp; done) | exact big (by simp; done))) ?_ | refine And.intro (Or.inl ⟨rfl, rfl⟩) ?_ | refine And.intro ⟨_, rfl⟩ ?_))
    have e1 : endsK ks ⟨.al, b, e⟩ = [] := by simp [endsK]
    rw [e1] at q
    exact ⟨rfl, q⟩
  all_goals
    refine Or.inl (And.intro (Or.inl ⟨rfl, rfl⟩) ?_)
    refine And.intro (big' (by decide)) ?_
    refine And.intro (Or.inl ⟨rfl, rfl⟩) ?_
    exact two _ (by decide) q
def turnsSp : DSp := fun β ds Q => ∃ (ks : List Kd) (k : Ky), ds = argsK ks k ∧ k.ok ks.length ∧ ks.length ≤ 60 ∧ Q (.ow (.lst (kyD (turnsK ks k))))
theorem turns_mono (β : Option Bag) (ds : List D) (Q Q' : R → Prop) (f : ∀ r, Q r → Q' r) (h : turnsSp β ds Q) : turnsSp β ds Q' := by
  obtain ⟨ks, k, h1, h2, h3, h4⟩ := h
  exact ⟨ks, k, h1, h2, h3, f _ h4⟩
theorem turns_ar (β : Option Bag) (ds : List D) (Q : R → Prop) (h : turnsSp β ds Q) : ds.length = 4 := by
  obtain ⟨ks, k, rfl, _⟩ := h
  rfl
theorem turns_ev {ds : List D} {Q : R → Prop} (h : turnsSp β ds Q) : evB T Tx.bd_turns_here (sta 6 ds β) (finE β Q) := by
  obtain ⟨ks, ⟨p, b, e⟩, rfl, ⟨h1, h2⟩, h60, q⟩ := h
  simp only at h1 h2
  show evB T Tx.bd_turns_here ⟨[.fz (.str p.s), .fz (.lst (kD ks)), .fz (.int (b : Int)), .fz (.int (e : Int)), .un, .un], β⟩ _
  refine ifL (fun hb => ?_) fun hb => ?_
  · have hlt : b < e := by omega
    obtain ⟨k, hk⟩ : ∃ k, ks[b]? = some k := ⟨_, List.getElem?_eq_getElem (by omega)⟩
    have e1 : turnsK ks ⟨p, b, e⟩ = turnsF k true p b e := by
      unfold turnsK hereK
      simp only
      rw [if_pos hlt, hk, decide_eq_true hlt]
      rfl
    rw [e1] at q
    refine Exists.intro _ (And.intro (kD_at hk) ?_)
    refine And.intro (big' (by decide)) ?_
    refine ifL (fun hb => ?_) fun hb => absurd hlt (by omega)
    cases p <;> cases k
    all_goals
      (repeat (first | refine Or.inl (And.intro (Or.inl ⟨rfl, rfl⟩) ?_) | refine And.intro (by (first | exact big' (by decide) | exact big (by decide) | exact big' (by simp; done) | exact big (by simp; done))) ?_ | refine And.intro (Or.inl ⟨rfl, rfl⟩) ?_ | refine And.intro ⟨_, rfl⟩ ?_))
      exact ⟨rfl, q⟩
  · have hlt : ¬ b < e := by omega
    have e1 : turnsK ks ⟨p, b, e⟩ = turnsF .no false p b e := by
      unfold turnsK hereK
      simp only
      rw [if_neg hlt, decide_eq_false hlt]
    rw [e1] at q
    refine And.intro (big' (by decide)) ?_
    refine ifL (fun hb => absurd hlt (by omega)) fun hb => ?_
    cases p
    all_goals
      (repeat (first | refine Or.inl (And.intro (Or.inl ⟨rfl, rfl⟩) ?_) | refine And.intro (by (first | exact big' (by decide) | exact big (by decide) | exact big' (by simp; done) | exact big (by simp; done))) ?_ | refine And.intro (Or.inl ⟨rfl, rfl⟩) ?_ | refine And.intro ⟨_, rfl⟩ ?_))
      exact ⟨rfl, q⟩
def blocksSp : DSp := fun β ds Q => ∃ (ks : List Kd) (k : Ky), ds = argsK ks k ∧ k.ok ks.length ∧ ks.length ≤ 60 ∧ Q (.ow (.lst (kkD (blocksK ks k))))
theorem blocks_mono (β : Option Bag) (ds : List D) (Q Q' : R → Prop) (f : ∀ r, Q r → Q' r) (h : blocksSp β ds Q) : blocksSp β ds Q' := by
  obtain ⟨ks, k, h1, h2, h3, h4⟩ := h
  exact ⟨ks, k, h1, h2, h3, f _ h4⟩
theorem blocks_ar (β : Option Bag) (ds : List D) (Q : R → Prop) (h : blocksSp β ds Q) : ds.length = 4 := by
  obtain ⟨ks, k, rfl, _⟩ := h
  rfl
theorem blocks_ev (hd : T.gd = gdf) {ds : List D} {Q : R → Prop} (h : blocksSp β ds Q) : evB T Tx.bd_blocks_here (sta 6 ds β) (finE β Q) := by
  obtain ⟨W, fn, gl, xfn, cn, fx, tabs, gd⟩ := T
  have hd : gd = gdf := hd
  subst hd
  obtain ⟨ks, ⟨p, b, e⟩, rfl, ⟨h1, h2⟩, h60, q⟩ := h
  simp only at h1 h2
  show evB _ Tx.bd_blocks_here ⟨[.fz (.str p.s), .fz (.lst (kD ks)), .fz (.int (b : Int)), .fz (.int (e : Int)), .un, .un], β⟩ _
  refine Or.inl (And.intro (Or.inl ⟨rfl, rfl⟩) ?_)
  refine ifI (fun h => ?_) fun h => ?_
  · have hlt : ¬ b < e := by omega
    have e1 : blocksK ks ⟨p, b, e⟩ = [] := by
      unfold blocksK hereK
      simp only
      rw [if_neg hlt]
      unfold blocksF
      split <;> rfl
    rw [e1] at q
    refine And.intro (big' (by decide)) ?_
    exact ⟨rfl, q⟩
  · have hlt : b < e := by omega
    obtain ⟨k, hk⟩ : ∃ k, ks[b]? = some k := ⟨_, List.getElem?_eq_getElem (by omega)⟩
    have e1 : blocksK ks ⟨p, b, e⟩ = blocksF k p b e := by
      unfold blocksK hereK
      simp only
      rw [if_pos hlt, hk]
      rfl
    rw [e1] at q
    have rest : ∀ (i : Pt) (q' : Pt) (m5 : M), Q (.ow (.lst (kkD ((List.range (e - b)).map fun j => ((⟨i, b + 1, b + 1 + j⟩, ⟨q', b + 1 + j, e⟩) : Ky × Ky))))) → evB ⟨W, fn, gl, xfn, cn, fx, tabs, gdf⟩ (Tx.bd_blocks_here.drop 2) ⟨[.fz (.str q'.s), .fz (.lst (kD ks)), .fz (.int (b : Int)), .fz (.int (e : Int)), .fz (.str i.s), m5], β⟩ (finE β Q) := fun i q' m5 q => by
      refine And.intro ⟨by omega, by omega, by omega, by omega⟩ ?_
      refine compG (fun j : Nat => .int ((b : Int) + 1 + (j : Nat))) (fun j : Nat => .tup [Ky.d ⟨i, b + 1, b + 1 + j⟩, Ky.d ⟨q', b + 1 + j, e⟩]) (List.range (((e : Int) + 1) - ((b : Int) + 1)).toNat) (big (by rw [List.length_range]; omega)) (fun j hj k hk => ?_) ?_
      · (repeat (first | refine Or.inl (And.intro (Or.inl ⟨rfl, rfl⟩) ?_) | refine And.intro (by (first | exact big' (by decide) | exact big (by decide) | exact big' (by simp; done) | exact big (by simp; done))) ?_ | refine And.intro (Or.inl ⟨rfl, rfl⟩) ?_ | refine And.intro ⟨_, rfl⟩ ?_))
        exact hk
      · refine ⟨rfl, ?_⟩
        have e2 : (((e : Int) + 1) - ((b : Int) + 1)).toNat = e - b := by omega
        rw [e2]
        unfold kkD at q
        rw [List.map_map] at q
        exact q
    cases p
    case fs =>
      (repeat (first | refine Or.inl (And.intro (Or.inl ⟨rfl, rfl⟩) ?_) | refine And.intro (by (first | exact big' (by decide) | exact big (by decide) | exact big' (by simp; done) | exact big (by simp; done))) ?_ | refine And.intro (Or.inl ⟨rfl, rfl⟩) ?_ | refine And.intro ⟨_, rfl⟩ ?_))
      exact ⟨rfl, q⟩
    all_goals
      refine Or.inl (And.intro (Or.inl ⟨rfl, rfl⟩) ?_)
      refine Exists.intro _ (And.intro (kD_at hk) ?_)
      cases k
      all_goals
        first
          | (refine And.intro (big' (by decide)) ?_
             exact ⟨rfl, q⟩)
          | (refine Exists.intro _ (And.intro (kD_at hk) ?_)
             refine Exists.intro _ (And.intro rfl ?_)
             exact rest _ _ _ q)
end
end K79

set_option Elab.async false
set_option linter.all false
set_option autoImplicit false
set_option maxRecDepth 100000
set_option maxHeartbeats 4000000
/-! K79n: the table of the numbers (plain); the keys in their order. -/
namespace K79
open PySem PySem.Spec PyProof.Rows L2 DI
def minL (l : List Nat) : Nat := l.min?.getD 0
theorem minL_spec {l : List Nat} (h : l ≠ []) : minL l ∈ l ∧ ∀ y ∈ l, minL l ≤ y := by
  unfold minL
  cases e : l.min? with
  | none => exact absurd (List.min?_eq_none_iff.mp e) h
  | some a =>
    have := List.min?_eq_some_iff.mp e
    exact this
theorem minL_unique {l : List Nat} {m : Nat} (h1 : m ∈ l) (h2 : ∀ y ∈ l, m ≤ y) : minL l = m := by
  obtain ⟨a, b⟩ := minL_spec (List.ne_nil_of_mem h1)
  have := b m h1
  have := h2 _ a
  omega
def tbF (ks : List Kd) : Nat → Ky → Nat
  | 0, _ => 0
  | n + 1, k => minL (bndK ks (tbF ks n) k)
def tb (ks : List Kd) (k : Ky) : Nat := tbF ks (k.rk + 1) k
theorem bnd_congr {ks : List Kd} {f g : Ky → Nat} {k : Ky} (h : ∀ j, low j k → f j = g j) (hk : k.b ≤ k.e) : bndK ks f k = bndK ks g k := by
  have hk : k.ok k.e := ⟨hk, Nat.le_refl _⟩
  unfold bndK
  congr 1
  · congr 1
    exact List.map_congr_left fun t ht => by rw [h _ (turns_low hk ht).2]
  · exact List.map_congr_left fun t ht => by
      obtain ⟨⟨_, a⟩, _, b⟩ := blocks_low hk ht
      rw [h _ a, h _ b]
theorem low_le {j k : Ky} (h : low j k) (hk : k.b ≤ k.e) (hj : j.b ≤ j.e) : j.rk < k.rk := low_rk h
theorem tbF_eq {ks : List Kd} : ∀ (n m : Nat) (k : Ky), k.b ≤ k.e → k.rk < n → k.rk < m → tbF ks n k = tbF ks m k
  | 0, _, _, _, h, _ => by omega
  | _, 0, _, _, _, h => by omega
  | n + 1, m + 1, k, hk, hn, hm => by
    have ok : k.ok k.e := ⟨hk, Nat.le_refl _⟩
    rw [tbF, tbF]
    congr 1
    unfold bndK
    congr 1
    · congr 1
      exact List.map_congr_left fun t ht => by
        obtain ⟨⟨a, _⟩, b⟩ := turns_low ok ht
        have := low_rk b
        rw [tbF_eq n m _ a (by omega) (by omega)]
    · exact List.map_congr_left fun t ht => by
        obtain ⟨⟨⟨a1, _⟩, a⟩, ⟨b1, _⟩, b⟩ := blocks_low ok ht
        have := low_rk a
        have := low_rk b
        rw [tbF_eq n m _ a1 (by omega) (by omega), tbF_eq n m _ b1 (by omega) (by omega)]
theorem tb_eq (ks : List Kd) {k : Ky} (hk : k.b ≤ k.e) : tb ks k = minL (bndK ks (tb ks) k) := by
  have ok : k.ok k.e := ⟨hk, Nat.le_refl _⟩
  show minL (bndK ks (tbF ks k.rk) k) = _
  congr 1
  unfold bndK
  congr 1
  · congr 1
    exact List.map_congr_left fun t ht => by
      obtain ⟨⟨a, _⟩, b⟩ := turns_low ok ht
      have := low_rk b
      show t.1 + tbF ks k.rk t.2 = t.1 + tbF ks (t.2.rk + 1) t.2
      exact congrArg (t.1 + ·) (tbF_eq k.rk (t.2.rk + 1) t.2 a (by omega) (by omega))
  · exact List.map_congr_left fun t ht => by
      obtain ⟨⟨⟨a1, _⟩, a⟩, ⟨b1, _⟩, b⟩ := blocks_low ok ht
      have := low_rk a
      have := low_rk b
      show tbF ks k.rk t.1 + tbF ks k.rk t.2 = tbF ks (t.1.rk + 1) t.1 + tbF ks (t.2.rk + 1) t.2
      rw [tbF_eq k.rk (t.1.rk + 1) _ a1 (by omega) (by omega), tbF_eq k.rk (t.2.rk + 1) _ b1 (by omega) (by omega)]
theorem tb_spec (ks : List Kd) {k : Ky} (hk : k.b ≤ k.e) : tb ks k ∈ bndK ks (tb ks) k ∧ ∀ y ∈ bndK ks (tb ks) k, tb ks k ≤ y := by
  rw [tb_eq ks hk]
  have := minL_spec (bnd_ne ks (tb ks) hk)
  rw [← tb_eq ks hk] at this ⊢
  exact this
/-- how great -/
theorem tb_le (ks : List Kd) : ∀ (n : Nat) (k : Ky), k.b ≤ k.e → k.rk ≤ n → tb ks k ≤ (k.e - k.b) + 2 ∧ ((k.p ≠ .el ∧ k.p ≠ .al) → tb ks k ≤ (k.e - k.b) + 1) := by
  intro n
  induction n with
  | zero =>
    intro k hk hr
    obtain ⟨p, b, e⟩ := k
    unfold Ky.rk at hr
    simp only at hr hk
    have hp : ¬ (p = .el ∨ p = .al) := fun z => by rw [if_pos z] at hr; omega
    rw [if_neg hp] at hr
    have e0 : e = b := by omega
    subst e0
    have := (tb_spec ks (k := ⟨p, e, e⟩) (Nat.le_refl _)).2
    have h1 : tb ks ⟨p, e, e⟩ ≤ 1 := by
      cases p
      case rw => exact Nat.le_trans (this 0 (by simp [bndK, endsK])) (by omega)
      case el => exact absurd (.inl rfl) hp
      case al => exact absurd (.inr rfl) hp
      all_goals exact this 1 (by simp [bndK, endsK])
    simp only
    exact ⟨by omega, fun _ => by omega⟩
  | succ n ih =>
    intro k hk hr
    obtain ⟨p, b, e⟩ := k
    simp only at hk
    have hs := (tb_spec ks (k := ⟨p, b, e⟩) hk).2
    by_cases hp : p = .el ∨ p = .al
    · have m : (1, (⟨.en, b, e⟩ : Ky)) ∈ turnsK ks ⟨p, b, e⟩ := by
        unfold turnsK turnsF
        simp [hp]
      have q := hs (1 + tb ks ⟨.en, b, e⟩) (by
        unfold bndK
        rw [List.mem_append, List.mem_append]
        exact .inl (.inr (List.mem_map.mpr ⟨_, m, rfl⟩)))
      have := (ih ⟨.en, b, e⟩ hk (by
        unfold Ky.rk at hr ⊢
        rw [if_pos hp] at hr
        rw [if_neg (by simp)]
        simp only at hr ⊢
        omega)).2 ⟨by simp, by simp⟩
      simp only at this ⊢
      refine ⟨by omega, fun z => ?_⟩
      rcases hp with hp | hp
      · exact absurd hp z.1
      · exact absurd hp z.2
    · by_cases hb : b < e
      · have m : (1, (⟨p, b + 1, e⟩ : Ky)) ∈ turnsK ks ⟨p, b, e⟩ := by
          unfold turnsK turnsF
          simp [hb]
        have q := hs (1 + tb ks ⟨p, b + 1, e⟩) (by
          unfold bndK
          rw [List.mem_append, List.mem_append]
          exact .inl (.inr (List.mem_map.mpr ⟨_, m, rfl⟩)))
        have hp' : p ≠ .el ∧ p ≠ .al := ⟨fun z => hp (.inl z), fun z => hp (.inr z)⟩
        have := (ih ⟨p, b + 1, e⟩ hb (by
          unfold Ky.rk at hr ⊢
          rw [if_neg hp] at hr ⊢
          simp only at hr ⊢
          omega)).2 hp'
        simp only at this ⊢
        exact ⟨by omega, fun _ => by omega⟩
      · have e0 : e = b := by omega
        subst e0
        have h1 : tb ks ⟨p, e, e⟩ ≤ 1 := by
          cases p
          case rw => exact Nat.le_trans (hs 0 (by simp [bndK, endsK])) (by omega)
          case el => exact absurd (.inl rfl) hp
          case al => exact absurd (.inr rfl) hp
          all_goals exact hs 1 (by simp [bndK, endsK])
        simp only
        exact ⟨by omega, fun _ => by omega⟩
/-! ### the keys -/
def partsK : List Pt := [.en, .al, .cs, .el, .fs, .rw]
def keysL (n l : Nat) : List Ky := (List.range (n - l + 1)).flatMap fun b => partsK.map fun p => ⟨p, b, b + l⟩
def keysK (n : Nat) : List Ky := (List.range (n + 1)).flatMap (keysL n)
def pix : Pt → Nat
  | .en => 0
  | .al => 1
  | .cs => 2
  | .el => 3
  | .fs => 4
  | .rw => 5
def pos (k : Ky) : Nat := ((k.e - k.b) * 100 + k.b) * 10 + pix k.p
theorem keys_mem {n : Nat} {k : Ky} : k ∈ keysK n ↔ k.ok n := by
  unfold keysK keysL Ky.ok
  simp only [List.mem_flatMap, List.mem_range, List.mem_map]
  obtain ⟨p, b, e⟩ := k
  constructor
  · rintro ⟨l, hl, b', hb, p', hp, h⟩
    cases h
    simp only
    omega
  · rintro ⟨h1, h2⟩
    simp only at h1 h2
    refine ⟨e - b, by omega, b, by omega, p, by cases p <;> decide, ?_⟩
    rw [show b + (e - b) = e by omega]
theorem keysL_mem {n l : Nat} {k : Ky} (h : k ∈ keysL n l) : k.e = k.b + l ∧ k.b ≤ n - l := by
  unfold keysL at h
  simp only [List.mem_flatMap, List.mem_range, List.mem_map] at h
  obtain ⟨b, hb, p, hp, rfl⟩ := h
  exact ⟨rfl, by simp only; omega⟩
theorem keys_pw {n : Nat} (hn : n ≤ 60) : (keysK n).Pairwise fun j k => pos j < pos k := by
  unfold keysK
  rw [List.pairwise_flatMap]
  refine ⟨fun l hl => ?_, ?_⟩
  · unfold keysL
    rw [List.pairwise_flatMap]
    refine ⟨fun b hb => ?_, ?_⟩
    · rw [List.pairwise_map]
      unfold partsK
      simp [pos, pix]
    · refine List.Pairwise.imp ?_ List.pairwise_lt_range
      intro a b hab x hx y hy
      rw [List.mem_map] at hx hy
      obtain ⟨p, _, rfl⟩ := hx
      obtain ⟨p', _, rfl⟩ := hy
      unfold pos
      have : pix p < 6 := by cases p <;> decide
      simp only
      omega
  · refine List.Pairwise.imp_of_mem ?_ List.pairwise_lt_range
    intro a b ha hb hab x hx y hy
    obtain ⟨h1, h2⟩ := keysL_mem hx
    obtain ⟨h3, h4⟩ := keysL_mem hy
    unfold pos
    have : pix x.p < 6 := by cases x.p <;> decide
    rw [h1, h3]
    rw [List.mem_range] at ha hb
    omega
theorem low_pos {j k : Ky} (h : low j k) (hj : j.b ≤ 60) : pos j < pos k := by
  unfold pos
  rcases h with h | ⟨h1, h2, h3, h4⟩
  · have : pix j.p < 6 := by cases j.p <;> decide
    omega
  · rw [h1, h2, h3]
    have : 0 < pix k.p := by rcases h4 with h | h <;> (rw [h]; decide)
    have : pix .en = 0 := rfl
    omega
/-- what is asked for stands ahead -/
theorem ahead {n : Nat} (hn : n ≤ 60) {done rest : List Ky} {k j : Ky} (h : keysK n = done ++ k :: rest) (hj : j.ok n) (hl : low j k) : j ∈ done := by
  have m := keys_mem.mpr hj
  have pw := keys_pw hn
  rw [h] at m pw
  have hp := low_pos hl (by have := hj.1; have := hj.2; omega)
  rcases List.mem_append.mp m with m | m
  · exact m
  · have pw := (List.pairwise_append.mp pw).2.1
    rcases List.mem_cons.mp m with rfl | m
    · omega
    · have := (List.pairwise_cons.mp pw).1 j m
      omega
theorem keys_nodup {n : Nat} (hn : n ≤ 60) : (keysK n).Nodup := by
  refine List.Pairwise.imp ?_ (keys_pw hn)
  intro a b h e
  rw [e] at h
  omega
theorem keysL_len (n l : Nat) : (keysL n l).length = (n - l + 1) * 6 := by
  unfold keysL
  rw [List.length_flatMap]
  have : ∀ m : Nat, ((List.range m).map fun b => (partsK.map fun p => (⟨p, b, b + l⟩ : Ky)).length).sum = m * 6 := by
    intro m
    induction m with
    | zero => rfl
    | succ m ih =>
      rw [List.range_succ, List.map_append, List.sum_append, ih]
      simp [partsK]
      omega
  exact this _
theorem keys_len {n : Nat} (hn : n ≤ 60) : ∀ m, m ≤ n + 1 → ((List.range m).flatMap (keysL n)).length ≤ m * 366
  | 0, _ => by simp
  | m + 1, h => by
    rw [List.range_succ, List.flatMap_append, List.length_append]
    have := keys_len hn m (by omega)
    simp only [List.flatMap_cons, List.flatMap_nil, List.append_nil]
    rw [keysL_len]
    omega
theorem keysK_len {n : Nat} (hn : n ≤ 60) : (keysK n).length ≤ 30000 := by
  have := keys_len hn (n + 1) (Nat.le_refl _)
  have e : keysK n = (List.range (n + 1)).flatMap (keysL n) := rfl
  rw [e]
  have : (n + 1) * 366 ≤ 61 * 366 := Nat.mul_le_mul (by omega) (Nat.le_refl _)
  omega
end K79

set_option Elab.async false
set_option linter.all false
set_option autoImplicit false
set_option maxRecDepth 100000
set_option maxHeartbeats 400000
/-! K79o: bounds, keys_of. -/
namespace K79
open PySem PySem.Spec PyProof.Rows L2 DI
def TabK (kvs : List (NestedKey × D × D)) (f : Ky → Nat) (k : Ky) : Prop := valN kvs k.nk = some (.int (f k : Nat))
theorem ends_len (ks : List Kd) (k : Ky) : (endsK ks k).length ≤ 3 := by
  unfold endsK
  have h : ∀ (p : Prop) [Decidable p] (x : Nat), (if p then [x] else []).length ≤ 1 := fun p _ x => by split <;> simp
  have h2 : (if k.p = .en ∨ k.p = .fs ∨ k.p = .cs then (if k.b = k.e then [1] else []) ++ (if k.e = k.b + 1 ∧ ks[k.b]? = some .en then [0] else []) else []).length ≤ 2 := by
    split
    · rw [List.length_append]
      have := h (k.b = k.e) 1
      have := h (k.e = k.b + 1 ∧ ks[k.b]? = some .en) 0
      omega
    · exact Nat.zero_le _
  have h1 := h (k.p = .rw ∧ k.b = k.e) 0
  rw [List.length_append]
  omega
theorem turns_len (ks : List Kd) (k : Ky) : (turnsK ks k).length ≤ 6 := by
  unfold turnsK turnsF
  have h : ∀ (p : Prop) [Decidable p] (x : Nat × Ky), (if p then [x] else []).length ≤ 1 := fun p _ x => by split <;> simp
  simp only [List.length_append]
  have h1 := h (decide (k.b < k.e) = true) (1, ⟨k.p, k.b + 1, k.e⟩)
  have h2 := h (hereK ks k = .si ∧ k.p ≠ .fs) (0, ⟨k.p, k.b + 1, k.e⟩)
  have h3 := h (hereK ks k = .cs ∧ (k.p = .fs ∨ k.p = .cs)) (0, ⟨.cs, k.b + 1, k.e⟩)
  have h4 := h (hereK ks k = .ca ∧ k.p = .al) (0, ⟨.al, k.b + 1, k.e⟩)
  have h5 : (if k.p = .el ∨ k.p = .al then [(1, (⟨.en, k.b, k.e⟩ : Ky))] ++ (if (hereK ks k = .el ∧ k.p = .el) ∨ (hereK ks k = .al ∧ k.p = .al) then [(0, ⟨.en, k.b + 1, k.e⟩)] else []) else []).length ≤ 2 := by
    split
    · rw [List.length_append]
      have := h ((hereK ks k = .el ∧ k.p = .el) ∨ (hereK ks k = .al ∧ k.p = .al)) (0, ⟨.en, k.b + 1, k.e⟩)
      simp only [List.length_singleton]
      omega
    · simp
  omega
theorem blocks_len (ks : List Kd) (k : Ky) : (blocksK ks k).length ≤ k.e - k.b := by
  unfold blocksK blocksF
  split
  · simp
  · split
    · simp
    · simp
theorem nD_flat (l : List Nat) : (D.lst (nD l)).shal = true := by
  show (nD l).all D.flat = true
  unfold nD
  rw [List.all_map, List.all_eq_true]
  exact fun _ _ => rfl
section
variable {T : Tb} {β : Option Bag}
def bndSp (W : Program × World) : DSp := fun β ds Q => ∃ (ks : List Kd) (k : Ky) (kvs : List (NestedKey × D × D)) (f : Ky → Nat), ds = [.dcn W kvs, .lst (kD ks), k.d] ∧ k.ok ks.length ∧ ks.length ≤ 60 ∧ (∀ j : Ky, j.ok ks.length → low j k → TabK kvs f j) ∧ Q (.ow (.lst (nD (bndK ks f k))))
theorem bnd_mono (W : Program × World) (β : Option Bag) (ds : List D) (Q Q' : R → Prop) (f : ∀ r, Q r → Q' r) (h : bndSp W β ds Q) : bndSp W β ds Q' := by
  obtain ⟨ks, k, kvs, g, h1, h2, h3, h4, h5⟩ := h
  exact ⟨ks, k, kvs, g, h1, h2, h3, h4, f _ h5⟩
theorem bnd_ar (W : Program × World) (β : Option Bag) (ds : List D) (Q : R → Prop) (h : bndSp W β ds Q) : ds.length = 3 := by
  obtain ⟨ks, k, kvs, g, rfl, _⟩ := h
  rfl
theorem bnd_ev (t4 : T.fn 4 = endsSp) (t5 : T.fn 5 = turnsSp) (t6 : T.fn 6 = blocksSp) {ds : List D} {Q : R → Prop} (h : bndSp T.W β ds Q) : evB T Tx.bd_bounds (sta 7 ds β) (finE β Q) := by
  obtain ⟨ks, k, kvs, f, rfl, hk, h60, htb, q⟩ := h
  have l1 := ends_len ks k
  have l2 := turns_len ks k
  have l3 := blocks_len ks k
  have hT : ∀ t ∈ turnsK ks k, TabK kvs f t.2 := fun t ht => htb _ (turns_low hk ht).1 (turns_low hk ht).2
  have hB : ∀ t ∈ blocksK ks k, TabK kvs f t.1 ∧ TabK kvs f t.2 := fun t ht => ⟨htb _ (blocks_low hk ht).1.1 (blocks_low hk ht).1.2, htb _ (blocks_low hk ht).2.1 (blocks_low hk ht).2.2⟩
  have hke : k.e ≤ ks.length := hk.2
  unfold bndK at q
  show evB T Tx.bd_bounds ⟨[.fz (.dcn T.W kvs), .fz (.lst (kD ks)), .fz (.tup [.str k.p.s, .int (k.b : Int), .int (k.e : Int)]), .un, .un, .un, .un], β⟩ _
  refine Exists.intro _ (And.intro rfl ?_)
  refine Exists.intro _ (And.intro rfl ?_)
  refine Exists.intro _ (And.intro rfl ?_)
  show T.fn 4 β (argsK ks k) _
  rw [t4]
  refine ⟨ks, k, rfl, hk, h60, ?_⟩
  show evB T (Tx.bd_bounds.drop 1) ⟨[.fz (.dcn T.W kvs), .fz (.lst (kD ks)), .fz (.tup [.str k.p.s, .int (k.b : Int), .int (k.e : Int)]), .ow (.lst (nD (endsK ks k))), .un, .un, .un], β⟩ _
  refine And.intro ⟨_, rfl⟩ ?_
  refine Exists.intro _ (And.intro rfl ?_)
  refine Exists.intro _ (And.intro rfl ?_)
  refine Exists.intro _ (And.intro rfl ?_)
  show T.fn 5 β (argsK ks k) _
  rw [t5]
  refine ⟨ks, k, rfl, hk, h60, ?_⟩
  refine compG (fun t : Nat × Ky => .tup [.int (t.1 : Int), t.2.d]) (fun t : Nat × Ky => .int ((t.1 + f t.2 : Nat) : Int)) (turnsK ks k) (big (by omega)) (fun t ht c hc => ?_) ?_
  · refine Exists.intro _ (And.intro rfl ?_)
    refine ⟨rfl, t.2.nk, _, rfl, Ky.dep _, hT t ht, ?_⟩
    exact hc
  refine And.intro (big' (by simp only [List.length_map, nD]; omega)) ?_
  show evB T (Tx.bd_bounds.drop 2) ⟨[.fz (.dcn T.W kvs), .fz (.lst (kD ks)), .fz (.tup [.str k.p.s, .int (k.b : Int), .int (k.e : Int)]), .ow (.lst (nD (endsK ks k) ++ (turnsK ks k).map fun t : Nat × Ky => D.int ((t.1 + f t.2 : Nat) : Int))), .un, .un, .un], β⟩ _
  refine Exists.intro _ (And.intro rfl ?_)
  refine Exists.intro _ (And.intro rfl ?_)
  refine Exists.intro _ (And.intro rfl ?_)
  show T.fn 6 β (argsK ks k) _
  rw [t6]
  refine ⟨ks, k, rfl, hk, h60, ?_⟩
  refine compG (fun t : Ky × Ky => .tup [t.1.d, t.2.d]) (fun t : Ky × Ky => .int ((f t.1 + f t.2 : Nat) : Int)) (blocksK ks k) (big (by omega)) (fun t ht c hc => ?_) ?_
  · refine Exists.intro _ (And.intro rfl ?_)
    refine ⟨rfl, t.1.nk, _, rfl, Ky.dep _, (hB t ht).1, ?_⟩
    refine ⟨rfl, t.2.nk, _, rfl, Ky.dep _, (hB t ht).2, ?_⟩
    show c (some (.int (((f t.1 : Nat) : Int) + ((f t.2 : Nat) : Int)))) _
    exact hc
  refine And.intro (big' (by simp only [List.length_append, List.length_map, nD]; omega)) ?_
  refine ⟨rfl, ?_⟩
  unfold nD at q ⊢
  rw [List.map_append, List.map_append, List.map_map, List.map_map] at q
  exact q
end
end K79

set_option Elab.async false
set_option linter.all false
set_option autoImplicit false
set_option maxRecDepth 100000
set_option maxHeartbeats 400000
/-! K79oo: keys_of. -/
namespace K79
open PySem PySem.Spec PyProof.Rows L2 DI
section
variable {T : Tb} {β : Option Bag}
/-! ### the keys -/
def keyD (l : List Ky) : List D := l.map Ky.d
def keysSp : DSp := fun β ds Q => ∃ n : Nat, ds = [.int (n : Int)] ∧ n ≤ 60 ∧ Q (.ow (.lst (K79.keyD (keysK n))))
theorem keys_mono (β : Option Bag) (ds : List D) (Q Q' : R → Prop) (f : ∀ r, Q r → Q' r) (h : keysSp β ds Q) : keysSp β ds Q' := by
  obtain ⟨n, h1, h2, h3⟩ := h
  exact ⟨n, h1, h2, f _ h3⟩
theorem keys_ar (β : Option Bag) (ds : List D) (Q : R → Prop) (h : keysSp β ds Q) : ds.length = 1 := by
  obtain ⟨n, rfl, _⟩ := h
  rfl
theorem rng_at {n i : Nat} {d : D} {lo hi : Int} (hlo : lo = 0) (hh : hi = (n : Int)) (h : (rangeD lo hi)[i]? = some d) : i < n ∧ d = .int (i : Int) := by
  subst hlo hh
  exact rangeD_at h
theorem keysL_snoc (n l b : Nat) : (List.range (b + 1)).flatMap (fun b => partsK.map fun p => (⟨p, b, b + l⟩ : Ky)) = (List.range b).flatMap (fun b => partsK.map fun p => (⟨p, b, b + l⟩ : Ky)) ++ partsK.map fun p => (⟨p, b, b + l⟩ : Ky) := by
  rw [List.range_succ, List.flatMap_append]
  simp
theorem keysI_len (l b : Nat) : ((List.range b).flatMap (fun b => partsK.map fun p => (⟨p, b, b + l⟩ : Ky))).length = b * 6 := by
  induction b with
  | zero => rfl
  | succ b ih =>
    rw [keysL_snoc 0, List.length_append, ih]
    simp [partsK]
    omega
def kpre (n l b : Nat) : List Ky := (List.range l).flatMap (keysL n) ++ (List.range b).flatMap (fun b => partsK.map fun p => (⟨p, b, b + l⟩ : Ky))
def six : List Str := ["always", "case", "else", "end", "first", "rows"]
def noEnd (w : Str) : Option D := if (!eqD (.str w) (.str "end")) = true then some (.str w) else none
theorem six_no : six.filterMap noEnd = [.str "always", .str "case", .str "else", .str "first", .str "rows"] := by
  unfold noEnd
  simp only [eqD_str]
  kernel_rfl
theorem six_pt : six.filterMap noEnd = ([.al, .cs, .el, .fs, .rw] : List Pt).map fun p => D.str p.s := by
  rw [six_no]
  rfl
theorem keysof_ev (hg : T.gl = glf) {ds : List D} {Q : R → Prop} (h : keysSp β ds Q) : evB T Tx.bd_keys_of (sta 6 ds β) (finE β Q) := by
  obtain ⟨W, fn, gl, xfn, cn, fx, tabs, gd⟩ := T
  have hg : gl = glf := hg
  obtain ⟨L, hL⟩ : ∃ L, L = six := ⟨_, rfl⟩
  have hg2 : gl = fun k => if k = 3 then .tup (sD L) else glf k := by
    rw [hg]
    funext k
    by_cases e : k = 3
    · subst e
      rw [if_pos rfl, hL]
      rfl
    · rw [if_neg e]
  clear hg
  subst hg2
  obtain ⟨F, hF, hFe⟩ : ∃ F : List Pt, L.filterMap noEnd = F.map (fun p => D.str p.s) ∧ F = [.al, .cs, .el, .fs, .rw] := ⟨_, by rw [hL]; exact six_pt, rfl⟩
  obtain ⟨n, rfl, hn, q⟩ := h
  show evB _ Tx.bd_keys_of ⟨[.fz (.int (n : Int)), .un, .un, .un, .un, .un], β⟩ _
  refine And.intro (big' (by decide)) ?_
  refine And.intro (by omega) (And.intro (by omega) ?_)
  refine forI (fun l ρ => ∃ (m2 m3 : M), ρ = ⟨[.fz (.int (n : Int)), .ow (.lst (K79.keyD (kpre n l 0))), m2, m3, .un, .un], β⟩) ⟨.un, .un, rfl⟩ ?_ ?_
  · rintro l d _ E2 hd ⟨m2, m3, rfl⟩ hnx - - -
    obtain ⟨hl, rfl⟩ := rng_at (n := n + 1) rfl (by omega) hd
    refine And.intro (by omega) (And.intro (by omega) ?_)
    refine forI (fun b ρ => ∃ (m3 : M), ρ = ⟨[.fz (.int (n : Int)), .ow (.lst (K79.keyD (kpre n l b))), .fz (.int (l : Int)), m3, .un, .un], β⟩) ⟨m3, rfl⟩ ?_ ?_
    · rintro b d _ E3 hd ⟨m3, rfl⟩ hnx3 - - -
      obtain ⟨hb, rfl⟩ := rng_at (n := n - l + 1) rfl (by omega) hd
      refine And.intro ⟨_, rfl⟩ ?_
      show compD _ (sD L) [] _ _
      refine compGf D.str noEnd L (by rw [hL]; exact big (by decide)) (fun w hw k hk => ?_) ?_
      · refine Or.inl (And.intro (Or.inl ⟨rfl, rfl⟩) ?_)
        refine ifB (fun h => ?_) fun h => ?_
        · have h : (!eqD (.str w) (.str "end")) = true := h
          have e : noEnd w = some (.str w) := by unfold noEnd; rw [h]; rfl
          rw [e] at hk
          exact hk
        · have h : (!eqD (.str w) (.str "end")) = false := h
          have e : noEnd w = none := by unfold noEnd; rw [h]; rfl
          rw [e] at hk
          exact hk
      rw [hF]
      have hlF : (F.map fun p => D.str p.s).length = 5 := by rw [hFe]; rfl
      refine Exists.intro _ (And.intro rfl ?_)
      refine And.intro (big' ?_) ?_
      · show (D.str "end" :: ((F.map fun p => D.str p.s) ++ [])).length ≤ 100000
        rw [List.append_nil, List.length_cons, hlF]
        decide
      refine And.intro (by (first | exact big' (by decide) | exact big (by decide) | exact big' (by simp; done) | exact big (by simp; done))) ?_
      refine And.intro (by (first | exact big' (by decide) | exact big (by decide) | exact big' (by simp; done) | exact big (by simp; done))) ?_
      show compD _ ((F.map fun p => D.str p.s) ++ []) ([] ++ [Ky.d ⟨.en, b, b + l⟩]) _ _
      rw [List.append_nil]
      refine compG' (fun p : Pt => D.str p.s) (fun p : Pt => Ky.d ⟨p, b, b + l⟩) F _ (by rw [hFe]; exact big (by simp)) (fun p hp k hk => ?_) ?_
      · refine And.intro (by (first | exact big' (by decide) | exact big (by decide) | exact big' (by simp; done) | exact big (by simp; done))) ?_
        exact hk
      have hpk : [] ++ [Ky.d ⟨.en, b, b + l⟩] ++ F.map (fun p : Pt => Ky.d ⟨p, b, b + l⟩) = K79.keyD (partsK.map fun p => (⟨p, b, b + l⟩ : Ky)) := by rw [hFe]; rfl
      rw [hpk]
      have h1 := keys_len hn l (by omega)
      have h2 := keysI_len l b
      refine And.intro (big' ?_) ?_
      · show (K79.keyD (kpre n l b)).length + (K79.keyD (partsK.map fun p => (⟨p, b, b + l⟩ : Ky))).length ≤ 100000
        have h3 : (K79.keyD (partsK.map fun p => (⟨p, b, b + l⟩ : Ky))).length = 6 := rfl
        rw [h3]
        unfold K79.keyD kpre
        rw [List.length_map, List.length_append, h2]
        have : l * 366 ≤ 61 * 366 := Nat.mul_le_mul (by omega) (Nat.le_refl _)
        omega
      · refine hnx3 _ ⟨.fz (.int (b : Int)), ?_⟩
        have e : K79.keyD (kpre n l (b + 1)) = K79.keyD (kpre n l b) ++ K79.keyD (partsK.map fun p => (⟨p, b, b + l⟩ : Ky)) := by
          unfold kpre K79.keyD
          rw [keysL_snoc 0, ← List.append_assoc, List.map_append]
        rw [e]
        rfl
    · rintro _ ⟨m3, rfl⟩
      refine hnx _ ⟨.fz (.int (l : Int)), m3, ?_⟩
      have e0 : (rangeD 0 ((n : Int) - (l : Int) + 1)).length = n - l + 1 := by
        rw [show ((n : Int) - (l : Int) + 1) = ((n - l + 1 : Nat) : Int) by omega]
        exact rangeD_n
      have e : kpre n l (rangeD 0 ((n : Int) - (l : Int) + 1)).length = kpre n (l + 1) 0 := by
        rw [e0]
        unfold kpre
        show (List.range l).flatMap (keysL n) ++ keysL n l = _
        rw [List.range_succ, List.flatMap_append]
        simp
      show (⟨[.fz (.int (n : Int)), .ow (.lst (K79.keyD (kpre n l (rangeD 0 ((n : Int) - (l : Int) + 1)).length))), _, _, _, _], β⟩ : Sta) = _
      rw [e]
  · rintro _ ⟨m2, m3, rfl⟩
    refine ⟨rfl, ?_⟩
    have e0 : (rangeD 0 ((n : Int) + 1)).length = n + 1 := rangeD_n (n := n + 1)
    have e : kpre n (rangeD 0 ((n : Int) + 1)).length 0 = keysK n := by
      rw [e0]
      unfold kpre keysK
      simp
    show Q (.ow (.lst (K79.keyD (kpre n (rangeD 0 ((n : Int) + 1)).length 0))))
    rw [e]
    exact q
end
end K79

set_option Elab.async false
set_option linter.all false
set_option autoImplicit false
set_option maxRecDepth 100000
set_option maxHeartbeats 400000
/-! K79p: the floor; what the cheapest mend costs. -/
namespace K79
open PySem PySem.Spec PyProof.Rows L2 DI
def ent (f : Ky → Nat) (l : List Ky) : List (NestedKey × D × D) := l.map fun k => (k.nk, k.d, .int (f k : Nat))
theorem ent_any (f : Ky → Nat) (l : List Ky) (k : Ky) : ((ent f l).any fun p => decide (p.1 = k.nk)) = decide (k ∈ l) := by
  unfold ent
  rw [List.any_map, Bool.eq_iff_iff, List.any_eq_true, decide_eq_true_eq]
  constructor
  · rintro ⟨j, hj, e⟩
    simp only [Function.comp, decide_eq_true_eq] at e
    rw [← Ky.nk_inj e]
    exact hj
  · intro h
    exact ⟨k, h, by simp⟩
theorem put_ent {f : Ky → Nat} {l : List Ky} {k : Ky} (h : k ∉ l) : putN (ent f l) k.nk k.d (.int (f k : Nat)) = ent f (l ++ [k]) := by
  unfold putN
  rw [ent_any, decide_eq_false h, if_neg (by decide)]
  unfold ent
  rw [List.map_append]
  rfl
theorem val_ent {f : Ky → Nat} {l : List Ky} {k : Ky} (h : k ∈ l) : TabK (ent f l) f k := by
  unfold TabK valN ent
  induction l with
  | nil => cases h
  | cons j l ih =>
    rw [List.map_cons, List.find?_cons]
    by_cases e : j.nk = k.nk
    · rw [decide_eq_true e, Ky.nk_inj e]
      rfl
    · rw [decide_eq_false e]
      refine ih ?_
      rcases List.mem_cons.mp h with rfl | h
      · exact absurd rfl e
      · exact h
theorem Ky.cmpN (k : Ky) : CmpN 1 k.d := CmpN.tup (fun d hd => by
  simp only [List.mem_cons, List.not_mem_nil, or_false] at hd
  rcases hd with rfl | rfl | rfl
  · refine .str ?_
    cases k.p <;> decide +kernel
  · exact .int _
  · exact .int _)
theorem Ky.d_inj {j k : Ky} (h : j.d = k.d) : j = k := by
  have : j.d.nk = k.d.nk := by rw [h]
  rw [Ky.d_nk, Ky.d_nk] at this
  exact Ky.nk_inj (Option.some.inj this)
noncomputable def kyOf (d : D) : Ky := open Classical in if h : ∃ k : Ky, k.d = d then h.choose else ⟨.en, 0, 0⟩
theorem kyOf_d (k : Ky) : kyOf k.d = k := by
  have h : ∃ j : Ky, j.d = k.d := ⟨k, rfl⟩
  unfold kyOf
  rw [dif_pos h]
  exact Ky.d_inj h.choose_spec
theorem perm_ky {l : List D} {m : List Ky} (h : l.Perm (m.map Ky.d)) : ∃ L : List Ky, L.Perm m ∧ l = L.map Ky.d := by
  refine ⟨l.map kyOf, ?_, ?_⟩
  · have := h.map kyOf
    rw [List.map_map] at this
    have e : m.map (kyOf ∘ Ky.d) = m := by
      conv => rhs; rw [← List.map_id m]
      exact List.map_congr_left fun k _ => kyOf_d k
    rwa [e] at this
  · rw [List.map_map]
    conv => lhs; rw [← List.map_id l]
    refine List.map_congr_left fun d hd => ?_
    have := h.mem_iff.mp hd
    obtain ⟨k, _, rfl⟩ := List.mem_map.mp this
    show k.d = (kyOf k.d).d
    rw [kyOf_d]
theorem srt_keys (l : List Ky) : srtOk (l.map Ky.d) := by
  refine ⟨fun d hd => ?_, ?_, ?_⟩
  · obtain ⟨k, _, rfl⟩ := List.mem_map.mp hd
    exact ⟨k.cmpN.cmp (by decide), k.cmpN.ok⟩
  · rw [List.map_map]
    exact PySem.W.AllAlike.of fun j k => rfl
  · rw [List.map_map]
    exact PySem.W.Sortable.tuples fun k => ⟨_, _, rfl⟩
theorem dcompK {step : D → Sta → (D → D → Sta → Prop) → Prop} {ρ : Sta} {Q : List (NestedKey × D × D) → Sta → Prop} (f : Ky → Nat) : ∀ (L acc : List Ky), (acc ++ L).Nodup → acc.length + L.length < sizeLine → (∀ k ∈ L, ∀ c : D → D → Sta → Prop, c k.d (.int (f k : Nat)) ρ → step k.d ρ c) → Q (ent f (acc ++ L)) ρ → dcompD step (L.map Ky.d) (ent f acc) ρ Q
  | [], acc, _, _, _, q => by
    rw [List.append_nil] at q
    exact q
  | k :: L, acc, hn, hl, hs, q => by
    simp only [List.length_cons] at hl
    have hk : k ∉ acc := fun z => by
      rw [List.nodup_append] at hn
      exact hn.2.2 k z k List.mem_cons_self rfl
    refine ⟨?_, hs k List.mem_cons_self _ ?_⟩
    · unfold ent
      rw [List.length_map]
      omega
    · refine ⟨k.nk, rfl, k.dep, ?_⟩
      show dcompD step (L.map Ky.d) (putN (ent f acc) k.nk k.d (.int (f k : Nat))) ρ Q
      rw [put_ent hk]
      refine dcompK f L (acc ++ [k]) (by simpa using hn) (by simp; omega) (fun j hj => hs j (List.mem_cons_of_mem _ hj)) ?_
      simpa using q
section
variable {T : Tb} {β : Option Bag}
def floorSp (W : Program × World) : DSp := fun β ds Q => ∃ ls : List Str, ds = [.str (textOf ls)] ∧ Lns ls ∧ ∀ L : List Ky, L.Perm (keysK ls.length) → Q (.ow (.dcn W (ent (tb (ls.map kind)) L)))
theorem floor_mono (W : Program × World) (β : Option Bag) (ds : List D) (Q Q' : R → Prop) (f : ∀ r, Q r → Q' r) (h : floorSp W β ds Q) : floorSp W β ds Q' := by
  obtain ⟨ls, h1, h2, h3⟩ := h
  exact ⟨ls, h1, h2, fun L hL => f _ (h3 L hL)⟩
theorem floor_ar (W : Program × World) (β : Option Bag) (ds : List D) (Q : R → Prop) (h : floorSp W β ds Q) : ds.length = 1 := by
  obtain ⟨n, rfl, _⟩ := h
  rfl
theorem keyD_get {l : List Ky} {i : Nat} {d : D} (h : (K79.keyD l)[i]? = some d) : ∃ k, l[i]? = some k ∧ d = k.d := by
  unfold K79.keyD at h
  rw [List.getElem?_map] at h
  cases e : l[i]? with
  | none => rw [e] at h; cases h
  | some k => rw [e] at h; cases h; exact ⟨k, rfl, rfl⟩
theorem ent_len (f : Ky → Nat) (l : List Ky) : (ent f l).length = l.length := List.length_map ..
theorem floor_ev (t3 : T.fn 3 = kindsSp) (t7 : T.fn 7 = bndSp T.W) (t8 : T.fn 8 = keysSp) {ds : List D} {Q : R → Prop} (h : floorSp T.W β ds Q) : evB T Tx.bd_floor (sta 4 ds β) (finE β Q) := by
  obtain ⟨ls, rfl, hls, q⟩ := h
  show evB T Tx.bd_floor ⟨[.fz (.str (textOf ls)), .un, .un, .un], β⟩ _
  show T.fn 3 β [.str (textOf ls)] _
  rw [t3]
  refine ⟨ls, rfl, hls, ?_⟩
  have hlen : (ls.map kind).length = ls.length := List.length_map ..
  generalize hks : ls.map kind = ks at *
  have h60 : ks.length ≤ 60 := by have := hls.2; omega
  rw [← hlen] at q
  show T.fn 8 β [.int ((kD ks).length : Int)] _
  rw [t8, kD_len]
  refine ⟨ks.length, rfl, h60, ?_⟩
  have nd := keys_nodup h60
  have kl := keysK_len h60
  show forD _ (K79.keyD (keysK ks.length)) _ _
  refine forI (fun i ρ => ∃ m1 : M, ρ = ⟨[.fz (.str (textOf ls)), m1, .ow (.lst (kD ks)), .ow (.dcn T.W (ent (tb ks) ((keysK ks.length).take i)))], β⟩) ⟨.un, rfl⟩ ?_ ?_
  · rintro i d _ E2 hd ⟨m1, rfl⟩ hn - - -
    obtain ⟨k, hk, rfl⟩ := keyD_get hd
    have hi : i < (keysK ks.length).length := (List.getElem?_eq_some_iff.mp hk).1
    have hsplit : keysK ks.length = (keysK ks.length).take i ++ k :: (keysK ks.length).drop (i + 1) := by
      conv => lhs; rw [← List.take_append_drop i (keysK ks.length)]
      rw [List.drop_eq_getElem_cons hi]
      congr 2
      exact (List.getElem?_eq_some_iff.mp hk).2
    have hok : k.ok ks.length := keys_mem.mp (List.mem_of_getElem? hk)
    show T.fn 7 β [.dcn T.W (ent (tb ks) ((keysK ks.length).take i)), .lst (kD ks), k.d] _
    rw [t7]
    refine ⟨ks, k, _, tb ks, rfl, hok, h60, fun j hj hl => val_ent (ahead h60 hsplit hj hl), ?_⟩
    refine And.intro (nD_flat _) ?_
    have hne := bnd_ne ks (tb ks) hok.1
    refine ⟨(bndK ks (tb ks) k).map fun q : Nat => (q : Int), by unfold nD; rw [List.map_map]; rfl, by rw [List.length_map]; exact List.length_pos_iff.mpr hne, fun m hm1 hm2 => ?_⟩
    obtain ⟨m', hm', rfl⟩ := List.mem_map.mp hm1
    have hmin : m' = tb ks k := by
      rw [tb_eq ks hok.1]
      refine (minL_unique hm' fun y hy => ?_).symm
      have := hm2 (y : Int) (List.mem_map.mpr ⟨y, hy, rfl⟩)
      omega
    subst hmin
    refine And.intro ⟨_, rfl⟩ ?_
    refine And.intro rfl (And.intro (by rw [ent_len, List.length_take]; exact big (by omega)) ?_)
    refine ⟨k.nk, rfl, k.dep, ?_⟩
    have hnot : k ∉ (keysK ks.length).take i := fun z => by
      rw [hsplit, List.nodup_append] at nd
      exact nd.2.2 k z k List.mem_cons_self rfl
    have e1 : (keysK ks.length).take (i + 1) = (keysK ks.length).take i ++ [k] := by
      rw [List.take_succ, hk]
      rfl
    refine hn _ ⟨.fz k.d, ?_⟩
    rw [e1, ← put_ent hnot]
    rfl
  · rintro _ ⟨m1, rfl⟩
    have e1 : (keysK ks.length).take (K79.keyD (keysK ks.length)).length = keysK ks.length := by
      unfold K79.keyD
      rw [List.length_map, List.take_length]
    rw [e1]
    have e2 : (ent (tb ks) (keysK ks.length)).map (·.2.1) = (keysK ks.length).map Ky.d := by
      unfold ent
      rw [List.map_map]
      rfl
    refine And.intro rfl (And.intro (by rw [e2]; exact srt_keys _) (And.intro (by rw [ent_len]; omega) ?_))
    rw [e2]
    obtain ⟨L, hL, e3⟩ := perm_ky (l := srtK ((keysK ks.length).map Ky.d)) (m := keysK ks.length) (List.mergeSort_perm _ _)
    show dcompD _ (srtK ((keysK ks.length).map Ky.d)) [] _ _
    rw [e3]
    refine dcompK (tb ks) L [] ?_ (by have := hL.length_eq; simp only [List.length_nil]; exact big (by omega)) (fun k hk c hc => ?_) ?_
    · rw [List.nil_append]
      exact hL.nodup_iff.mpr nd
    · refine ⟨rfl, k.nk, _, rfl, k.dep, val_ent (hL.mem_iff.mp hk), ?_⟩
      exact hc
    · exact ⟨rfl, q L hL⟩
def fewSp : DSp := fun β ds Q => ∃ ls : List Str, ds = [.str (textOf ls)] ∧ Lns ls ∧ Q (.fz (.int (tb (ls.map kind) ⟨.rw, 0, ls.length⟩ : Nat)))
theorem few_mono (β : Option Bag) (ds : List D) (Q Q' : R → Prop) (f : ∀ r, Q r → Q' r) (h : fewSp β ds Q) : fewSp β ds Q' := by
  obtain ⟨ls, h1, h2, h3⟩ := h
  exact ⟨ls, h1, h2, f _ h3⟩
theorem few_ar (β : Option Bag) (ds : List D) (Q : R → Prop) (h : fewSp β ds Q) : ds.length = 1 := by
  obtain ⟨n, rfl, _⟩ := h
  rfl
theorem few_ev (t3 : T.fn 3 = kindsSp) (t9 : T.fn 9 = floorSp T.W) {ds : List D} {Q : R → Prop} (h : fewSp β ds Q) : evB T Tx.bd_fewest (sta 2 ds β) (finE β Q) := by
  obtain ⟨ls, rfl, hls, q⟩ := h
  show evB T Tx.bd_fewest ⟨[.fz (.str (textOf ls)), .un], β⟩ _
  show T.fn 3 β [.str (textOf ls)] _
  rw [t3]
  refine ⟨ls, rfl, hls, ?_⟩
  show T.fn 9 β [.str (textOf ls)] _
  rw [t9]
  refine ⟨ls, rfl, hls, fun L hL => ?_⟩
  refine And.intro (by (first | exact big' (by decide) | exact big (by decide) | exact big' (by simp; done) | exact big (by simp; done))) ?_
  have e : (kD (ls.map kind)).length = ls.length := by rw [kD_len, List.length_map]
  have hm : (⟨.rw, 0, (kD (ls.map kind)).length⟩ : Ky) ∈ L := hL.mem_iff.mpr (keys_mem.mpr ⟨Nat.zero_le _, by rw [e]; exact Nat.le_refl _⟩)
  refine ⟨rfl, Ky.nk ⟨.rw, 0, (kD (ls.map kind)).length⟩, _, rfl, Ky.dep _, val_ent hm, ?_⟩
  rw [e]
  exact ⟨rfl, q⟩
end
end K79

set_option Elab.async false
set_option linter.all false
set_option autoImplicit false
set_option maxRecDepth 100000
set_option maxHeartbeats 4000000
/-! K79k: words applied to lines. -/
namespace K79
open PySem PySem.Spec PyProof.Rows L2 DI
inductive Wd where
  | kp | st | en | el | al
  deriving DecidableEq
def Wd.s : Wd → Str
  | .kp => "keep"
  | .st => "strike"
  | .en => "end"
  | .el => "else"
  | .al => "always"
def wD (ws : List Wd) : List D := ws.map fun w => .str w.s
theorem wD_len (ws : List Wd) : (wD ws).length = ws.length := List.length_map ..
theorem wD_get {ws : List Wd} {i : Nat} {d : D} (h : (wD ws)[i]? = some d) : ∃ w, ws[i]? = some w ∧ d = .str w.s := by
  unfold wD at h
  rw [List.getElem?_map] at h
  cases e : ws[i]? with
  | none => rw [e] at h; cases h
  | some k => rw [e] at h; cases h; exact ⟨k, rfl, rfl⟩
/-- the words applied to the lines -/
def app : List Wd → List Str → Option (List Str)
  | [], [] => some []
  | [], _ :: _ => none
  | .kp :: _, [] => none
  | .kp :: ws, l :: ls => (app ws ls).map (l :: ·)
  | .st :: _, [] => none
  | .st :: ws, _ :: ls => app ws ls
  | .en :: ws, ls => (app ws ls).map ("end" :: ·)
  | .el :: ws, ls => (app ws ls).map ("else" :: ·)
  | .al :: ws, ls => (app ws ls).map ("always" :: ·)
def takes : Wd → Bool
  | .kp | .st => true
  | _ => false
theorem app_some : ∀ {ws : List Wd} {ls : List Str}, (app ws ls).isSome = decide (ws.countP takes = ls.length)
  | [], [] => rfl
  | [], _ :: _ => by simp [app]
  | .kp :: _, [] => by simp [app, takes]
  | .kp :: ws, l :: ls => by
    have : List.countP takes (Wd.kp :: ws) = ws.countP takes + 1 := List.countP_cons_of_pos rfl
    simp [app, app_some (ws := ws) (ls := ls), this]
  | .st :: _, [] => by simp [app, takes]
  | .st :: ws, _ :: ls => by
    have : List.countP takes (Wd.st :: ws) = ws.countP takes + 1 := List.countP_cons_of_pos rfl
    simp [app, app_some (ws := ws) (ls := ls), this]
  | .en :: ws, ls => by simp [app, takes, app_some (ws := ws) (ls := ls)]
  | .el :: ws, ls => by simp [app, takes, app_some (ws := ws) (ls := ls)]
  | .al :: ws, ls => by simp [app, takes, app_some (ws := ws) (ls := ls)]
theorem app_mem : ∀ {ws : List Wd} {ls out : List Str}, app ws ls = some out → (∀ l ∈ out, l ∈ ls ∨ l ∈ (["end", "else", "always"] : List Str)) ∧ out.length ≤ ws.length
  | [], [], out, h => by cases h; exact ⟨fun l hl => (by cases hl), Nat.le_refl _⟩
  | [], _ :: _, _, h => by cases h
  | .kp :: _, [], _, h => by cases h
  | .kp :: ws, l :: ls, out, h => by
    rw [app, Option.map_eq_some_iff] at h
    obtain ⟨o, ho, rfl⟩ := h
    obtain ⟨q1, q2⟩ := app_mem ho
    refine ⟨fun x hx => ?_, by simp; omega⟩
    rcases List.mem_cons.mp hx with rfl | hx
    · exact .inl List.mem_cons_self
    · exact (q1 x hx).imp (List.mem_cons_of_mem _) id
  | .st :: _, [], _, h => by cases h
  | .st :: ws, l :: ls, out, h => by
    rw [app] at h
    obtain ⟨q1, q2⟩ := app_mem h
    exact ⟨fun x hx => (q1 x hx).imp (List.mem_cons_of_mem _) id, by simp; omega⟩
  | .en :: ws, ls, out, h => by
    rw [app, Option.map_eq_some_iff] at h
    obtain ⟨o, ho, rfl⟩ := h
    obtain ⟨q1, q2⟩ := app_mem ho
    refine ⟨fun x hx => ?_, by simp; omega⟩
    rcases List.mem_cons.mp hx with rfl | hx
    · exact .inr (by simp)
    · exact q1 x hx
  | .el :: ws, ls, out, h => by
    rw [app, Option.map_eq_some_iff] at h
    obtain ⟨o, ho, rfl⟩ := h
    obtain ⟨q1, q2⟩ := app_mem ho
    refine ⟨fun x hx => ?_, by simp; omega⟩
    rcases List.mem_cons.mp hx with rfl | hx
    · exact .inr (by simp)
    · exact q1 x hx
  | .al :: ws, ls, out, h => by
    rw [app, Option.map_eq_some_iff] at h
    obtain ⟨o, ho, rfl⟩ := h
    obtain ⟨q1, q2⟩ := app_mem ho
    refine ⟨fun x hx => ?_, by simp; omega⟩
    rcases List.mem_cons.mp hx with rfl | hx
    · exact .inr (by simp)
    · exact q1 x hx
theorem app_lns {ws : List Wd} {ls out : List Str} (h : app ws ls = some out) (hl : Lns ls) (hw : ws.length ≤ 60) : Lns out := by
  obtain ⟨q1, q2⟩ := app_mem h
  refine ⟨fun l hm => ?_, by omega⟩
  rcases q1 l hm with h | h
  · exact hl.1 l h
  · simp only [List.mem_cons, List.not_mem_nil, or_false] at h
    rcases h with rfl | rfl | rfl <;> exact ⟨by decide +kernel, by decide +kernel⟩
section
variable {T : Tb} {β : Option Bag}
def leftSp : DSp := fun β ds Q => ∃ (ls out : List Str) (ws : List Wd), ds = [.str (textOf ls), .lst (wD ws)] ∧ Lns ls ∧ ws.length ≤ 60 ∧ app ws ls = some out ∧ Q (.ow (.lst (sD out)))
theorem left_mono (β : Option Bag) (ds : List D) (Q Q' : R → Prop) (f : ∀ r, Q r → Q' r) (h : leftSp β ds Q) : leftSp β ds Q' := by
  obtain ⟨ls, out, ws, h1, h2, h3, h4, h5⟩ := h
  exact ⟨ls, out, ws, h1, h2, h3, h4, f _ h5⟩
theorem left_ar (β : Option Bag) (ds : List D) (Q : R → Prop) (h : leftSp β ds Q) : ds.length = 2 := by
  obtain ⟨ls, out, ws, rfl, _⟩ := h
  rfl
theorem wd_drop {ws : List Wd} {i : Nat} {w : Wd} (h : ws[i]? = some w) : ws.drop i = w :: ws.drop (i + 1) := by
  obtain ⟨hlt, rfl⟩ := List.getElem?_eq_some_iff.mp h
  exact List.drop_eq_getElem_cons hlt
theorem seq_zero {n : Nat} (h : 0 < n) : seqIndex? 0 n = some 0 := by
  unfold seqIndex?
  simp
  try omega
theorem sD_snoc (a : List Str) (x : Str) : sD (a ++ [x]) = sD a ++ [.str x] := by unfold sD; rw [List.map_append]; rfl
theorem left_ev (hg : T.gl = glf) {ds : List D} {Q : R → Prop} (h : leftSp β ds Q) : evB T Tx.bd_lines_left (sta 6 ds β) (finE β Q) := by
  obtain ⟨W, fn, gl, xfn, cn, fx, tabs, gd⟩ := T
  have hg : gl = glf := hg
  subst hg
  obtain ⟨ls, out, ws, rfl, hls, h60, ha, q⟩ := h
  have := hls.text
  show evB _ Tx.bd_lines_left ⟨[.fz (.str (textOf ls)), .fz (.lst (wD ws)), .un, .un, .un, .un], β⟩ _
  refine And.intro (by decide +kernel) (And.intro (big' (by omega)) ?_)
  refine And.intro (big' (by decide)) ?_
  show evB _ (Tx.bd_lines_left.drop 1) ⟨[.fz (.str (textOf ls)), .fz (.lst (wD ws)), .un, .ow (.lst (cutD ((Txt.split (textOf ls) "\n").map D.str) none (some (-1)))), .ow (.lst []), .un], β⟩ _
  have e : cutD ((Txt.split (textOf ls) "\n").map D.str) none (some (-1)) = sD ls := by
    rw [text_split fun l hl => (hls.1 l hl).ok, List.map_append]
    exact cut_last (sD ls) (.str "")
  rw [e]
  refine forI (fun i ρ => ∃ (rs fs : List Str) (m2 m5 : M), ρ = ⟨[.fz (.str (textOf ls)), .fz (.lst (wD ws)), m2, .ow (.lst (sD rs)), .ow (.lst (sD fs)), m5], β⟩ ∧ fs.length ≤ i ∧ rs.length ≤ 60 ∧ (app (ws.drop i) rs).map (fs ++ ·) = some out) ⟨ls, [], .un, .un, rfl, Nat.le_refl _, hls.2, by rw [List.drop_zero, ha]; rfl⟩ ?_ ?_
  · rintro i d _ E2 hd ⟨rs, fs, m2, m5, rfl, hf, hr, hap⟩ hn hc hrt -
    obtain ⟨w, hw, rfl⟩ := wD_get hd
    have hi : i < ws.length := (List.getElem?_eq_some_iff.mp hw).1
    rw [wd_drop hw] at hap
    have put : ∀ x : Str, (app (ws.drop (i + 1)) rs).map (fun z => fs ++ x :: z) = some out → ∀ m2 m5 : M, E2.nx ⟨[.fz (.str (textOf ls)), .fz (.lst (wD ws)), m2, .ow (.lst (sD rs)), .ow (.lst (sD fs ++ [.str x])), m5], β⟩ := fun x hx m2 m5 => by
      refine hn _ ⟨rs, fs ++ [x], m2, m5, by rw [sD_snoc], by rw [List.length_append]; simp; omega, hr, ?_⟩
      rw [← hx]
      congr 1
      funext z
      simp
    have wl : ∀ y : Str, (sD fs ++ [D.str y]).length ≤ 100 := fun y => by rw [List.length_append, sD_len]; simp; omega
    have hf' : (sD fs).length ≤ 100 := by rw [sD_len]; omega
    cases w with
    | kp =>
      cases rs with
      | nil => cases hap
      | cons l rs =>
        refine And.intro (Or.inl ⟨rfl, rfl⟩) ?_
        refine And.intro ⟨_, rfl⟩ ?_
        refine And.intro (by decide) (And.intro (by decide) (Exists.intro 0 (Exists.intro (.str l) (And.intro (seq_zero (by rw [sD_len]; simp)) (And.intro rfl ?_)))))
        refine And.intro ⟨_, rfl⟩ ?_
        refine Or.inl (And.intro (Or.inl ⟨rfl, rfl⟩) ?_)
        refine And.intro (big' (by simp)) ?_
        refine And.intro (big' (by show (sD fs).length + 1 ≤ _; omega)) ?_
        have z := hn ⟨[.fz (.str (textOf ls)), .fz (.lst (wD ws)), .fz (.str "keep"), .ow (.lst (sD rs)), .ow (.lst (sD fs ++ [.str l])), .fz (.str l)], β⟩ ⟨rs, fs ++ [l], _, _, by rw [sD_snoc], by rw [List.length_append]; simp; omega, by simp at hr; omega, ?_⟩
        · exact z
        · rw [app, Option.map_map] at hap
          rw [← hap]
          congr 1
          funext z
          simp
    | st =>
      cases rs with
      | nil => cases hap
      | cons l rs =>
        refine And.intro (Or.inl ⟨rfl, rfl⟩) ?_
        refine And.intro ⟨_, rfl⟩ ?_
        refine And.intro (by decide) (And.intro (by decide) (Exists.intro 0 (Exists.intro (.str l) (And.intro (seq_zero (by rw [sD_len]; simp)) (And.intro rfl ?_)))))
        refine And.intro ⟨_, rfl⟩ ?_
        refine Or.inl (And.intro (Or.inl ⟨rfl, rfl⟩) ?_)
        refine And.intro (big' (by decide)) ?_
        refine And.intro (big' (by show (sD fs).length + 0 ≤ _; omega)) ?_
        have z := hn ⟨[.fz (.str (textOf ls)), .fz (.lst (wD ws)), .fz (.str "strike"), .ow (.lst (sD rs)), .ow (.lst (sD fs ++ [])), .fz (.str l)], β⟩ ⟨rs, fs, _, _, by rw [List.append_nil], by omega, by simp at hr; omega, ?_⟩
        · exact z
        · rw [app] at hap
          exact hap
    | en =>
      refine And.intro (Or.inl ⟨rfl, rfl⟩) ?_
      refine And.intro ⟨_, rfl⟩ ?_
      refine And.intro (big (by omega)) ?_
      exact put _ (by rw [app, Option.map_map] at hap; exact hap) _ _
    | el =>
      refine And.intro (Or.inl ⟨rfl, rfl⟩) ?_
      refine And.intro ⟨_, rfl⟩ ?_
      refine And.intro (big (by omega)) ?_
      exact put _ (by rw [app, Option.map_map] at hap; exact hap) _ _
    | al =>
      refine And.intro (Or.inl ⟨rfl, rfl⟩) ?_
      refine And.intro ⟨_, rfl⟩ ?_
      refine And.intro (big (by omega)) ?_
      exact put _ (by rw [app, Option.map_map] at hap; exact hap) _ _
  · rintro _ ⟨rs, fs, m2, m5, rfl, hf, hr, hap⟩
    rw [wD_len, List.drop_length] at hap
    cases rs with
    | cons => cases hap
    | nil =>
      have hap : some (fs ++ []) = some out := hap
      rw [List.append_nil] at hap
      cases hap
      exact ⟨rfl, q⟩
end
end K79

set_option Elab.async false
set_option linter.all false
set_option autoImplicit false
set_option maxRecDepth 100000
set_option maxHeartbeats 4000000
/-! K79l: cost, mended, the law's mended; what is a mend. -/
namespace K79
open PySem PySem.Spec PyProof.Rows L2 DI
def costW (ws : List Wd) : Nat := (ws.filter fun w => decide (w ≠ .kp)).length
def keepF (w : Wd) : Option D := if w = .kp then none else some (.str w.s)
theorem keepF_len : ∀ ws : List Wd, (ws.filterMap keepF).length = costW ws
  | [] => rfl
  | w :: ws => by
    have := keepF_len ws
    unfold costW at *
    cases w <;> simp [keepF, this]
theorem wD_small {ws : List Wd} (h : ws.length ≤ 60) : ws.length < sizeLine := big (by omega)
section
variable {T : Tb} {β : Option Bag}
def costSp : DSp := fun β ds Q => ∃ ws : List Wd, ds = [.lst (wD ws)] ∧ ws.length ≤ 60 ∧ Q (.fz (.int (costW ws : Nat)))
theorem cost_mono (β : Option Bag) (ds : List D) (Q Q' : R → Prop) (f : ∀ r, Q r → Q' r) (h : costSp β ds Q) : costSp β ds Q' := by
  obtain ⟨w, h1, h2, h3⟩ := h
  exact ⟨w, h1, h2, f _ h3⟩
theorem cost_ar (β : Option Bag) (ds : List D) (Q : R → Prop) (h : costSp β ds Q) : ds.length = 1 := by
  obtain ⟨w, rfl, _⟩ := h
  rfl
theorem cost_ev {ds : List D} {Q : R → Prop} (h : costSp β ds Q) : evB T Tx.bd_cost (sta 2 ds β) (finE β Q) := by
  obtain ⟨ws, rfl, h60, q⟩ := h
  show evB T Tx.bd_cost ⟨[.fz (.lst (wD ws)), .un], β⟩ _
  refine compGf (fun w : Wd => .str w.s) keepF ws (wD_small h60) (fun w hw k hk => ?_) ?_
  · refine Or.inl (And.intro (Or.inl ⟨rfl, rfl⟩) ?_)
    cases w <;> exact hk
  · refine ⟨rfl, ?_⟩
    have e : ((ws.filterMap keepF).length : Int) = ((costW ws : Nat) : Int) := by rw [keepF_len]
    show Q (.fz (.int ((ws.filterMap keepF).length : Int)))
    rw [e]
    exact q
def mendedSp : DSp := fun β ds Q => ∃ (ls out : List Str) (ws : List Wd), ds = [.str (textOf ls), .lst (wD ws)] ∧ Lns ls ∧ ws.length ≤ 60 ∧ app ws ls = some out ∧ Q (.fz (.str (textOf out)))
theorem mended_mono (β : Option Bag) (ds : List D) (Q Q' : R → Prop) (f : ∀ r, Q r → Q' r) (h : mendedSp β ds Q) : mendedSp β ds Q' := by
  obtain ⟨ls, out, ws, h1, h2, h3, h4, h5⟩ := h
  exact ⟨ls, out, ws, h1, h2, h3, h4, f _ h5⟩
theorem mended_ar (β : Option Bag) (ds : List D) (Q : R → Prop) (h : mendedSp β ds Q) : ds.length = 2 := by
  obtain ⟨ls, out, ws, rfl, _⟩ := h
  rfl
theorem mended_ev (t16 : T.fn 16 = leftSp) (t1 : T.fn 1 = joinSp) {ds : List D} {Q : R → Prop} (h : mendedSp β ds Q) : evB T Tx.bd_mended (sta 2 ds β) (finE β Q) := by
  obtain ⟨ls, out, ws, rfl, hls, h60, ha, q⟩ := h
  show evB T Tx.bd_mended ⟨[.fz (.str (textOf ls)), .fz (.lst (wD ws))], β⟩ _
  show T.fn 16 β [.str (textOf ls), .lst (wD ws)] _
  rw [t16]
  refine ⟨ls, out, ws, rfl, hls, h60, ha, ?_⟩
  show T.fn 1 β [.lst (sD out)] _
  rw [t1]
  exact ⟨out, rfl, app_lns ha hls h60, rfl, q⟩
def resL : Option (List Str) → R
  | none => .fz .non
  | some out => .ow (.lst (sD out))
def lmendSp : DSp := fun β ds Q => ∃ (ls : List Str) (ws : List Wd), ds = [.lst (sD ls), .lst (wD ws)] ∧ Lns ls ∧ ws.length ≤ 60 ∧ Q (resL (app ws ls))
theorem lmend_mono (β : Option Bag) (ds : List D) (Q Q' : R → Prop) (f : ∀ r, Q r → Q' r) (h : lmendSp β ds Q) : lmendSp β ds Q' := by
  obtain ⟨ls, ws, h1, h2, h3, h4⟩ := h
  exact ⟨ls, ws, h1, h2, h3, f _ h4⟩
theorem lmend_ar (β : Option Bag) (ds : List D) (Q : R → Prop) (h : lmendSp β ds Q) : ds.length = 2 := by
  obtain ⟨ls, ws, rfl, _⟩ := h
  rfl
theorem st_drop {ws : List Str} {i : Nat} (h : i < ws.length) : ws.drop i = ws[i] :: ws.drop (i + 1) := List.drop_eq_getElem_cons h
theorem lmend_ev {ds : List D} {Q : R → Prop} (h : lmendSp β ds Q) : evB T Tx.bd_l_mended (sta 5 ds β) (finE β Q) := by
  obtain ⟨ls, ws, rfl, hls, h60, q⟩ := h
  show evB T Tx.bd_l_mended ⟨[.fz (.lst (sD ls)), .fz (.lst (wD ws)), .un, .un, .un], β⟩ _
  refine And.intro (big' (by decide)) ?_
  refine forI (fun i ρ => ∃ (a : Nat) (fs : List Str) (m2 : M), ρ = ⟨[.fz (.lst (sD ls)), .fz (.lst (wD ws)), m2, .ow (.lst (sD fs)), .fz (.int (a : Int))], β⟩ ∧ fs.length ≤ i ∧ a ≤ ls.length ∧ app ws ls = (app (ws.drop i) (ls.drop a)).map (fs ++ ·)) ⟨0, [], .un, rfl, Nat.le_refl _, Nat.zero_le _, by simp⟩ ?_ ?_
  · rintro i d _ E2 hd ⟨a, fs, m2, rfl, hf, hr, hap⟩ hn hc hrt -
    obtain ⟨w, hw, rfl⟩ := wD_get hd
    have hi : i < ws.length := (List.getElem?_eq_some_iff.mp hw).1
    rw [wd_drop hw] at hap
    have hf' : (sD fs).length ≤ 100 := by rw [sD_len]; omega
    have put : ∀ x : Str, app ws ls = (app (ws.drop (i + 1)) (ls.drop a)).map (fun z => fs ++ x :: z) → ∀ m2 : M, E2.nx ⟨[.fz (.lst (sD ls)), .fz (.lst (wD ws)), m2, .ow (.lst (sD fs ++ [.str x])), .fz (.int (a : Int))], β⟩ := fun x hx m2 => by
      refine hn _ ⟨a, fs ++ [x], m2, by rw [sD_snoc], by rw [List.length_append]; simp; omega, hr, ?_⟩
      rw [hx]
      congr 1
      funext z
      simp
    have taken : ∀ (w : Wd), w = .kp ∨ w = .st → (a = ls.length → app ws ls = none) → (∀ ha : a < ls.length, app ws ls = (app (ws.drop (i + 1)) (ls.drop (a + 1))).map (fun z => fs ++ ((if w = .kp then [ls[a]] else []) ++ z))) → ∀ m2 : M,
        evB T [.ite (.cmp .eq (.var 4) (.bi .len (.cons (.var 0) .nil))) [.ret (.con .non)] [], .asg (.name 3) (.op2 .add (.var 3) (.op2 .mul (.lst (.cons (.op2 .ix (.var 0) (.var 4)) .nil)) (.bi .int (.cons (.op2 .eq (.var 2) (.con (.str "keep"))) .nil)))), .asg (.name 4) (.op2 .add (.var 4) (.con (.int 1)))]
          ⟨[.fz (.lst (sD ls)), .fz (.lst (wD ws)), .fz (.str w.s), .ow (.lst (sD fs)), .fz (.int (a : Int))], β⟩ E2 := fun w hw h0 h1 m2 => by
      refine Or.inl (And.intro (Or.inl ⟨rfl, rfl⟩) ?_)
      refine ifB (fun h => ?_) fun h => ?_
      · have h : eqD (.int (a : Int)) (.int ((sD ls).length : Int)) = true := h
        rw [eqD_int, decide_eq_true_eq, sD_len] at h
        refine hrt _ _ ⟨rfl, ?_⟩
        rw [h0 (by omega)] at q
        exact q
      · have h : eqD (.int (a : Int)) (.int ((sD ls).length : Int)) = false := h
        rw [eqD_int, decide_eq_false_iff_not, sD_len] at h
        have ha : a < ls.length := by omega
        refine Exists.intro _ (And.intro (sD_at ha) ?_)
        refine And.intro (big' (by simp)) ?_
        refine Or.inl (And.intro (Or.inl ⟨rfl, rfl⟩) ?_)
        rcases hw with rfl | rfl
        · refine And.intro (by decide) (And.intro (by decide) (And.intro (big' (by show 1 * 1 ≤ 100000; decide)) ?_))
          refine And.intro (big' (by show (sD fs).length + 1 ≤ _; omega)) ?_
          have z := hn ⟨[.fz (.lst (sD ls)), .fz (.lst (wD ws)), .fz (.str "keep"), .ow (.lst (sD fs ++ [.str ls[a]])), .fz (.int ((a + 1 : Nat) : Int))], β⟩ ⟨a + 1, fs ++ [ls[a]], _, by rw [sD_snoc], by rw [List.length_append]; simp; omega, ha, ?_⟩
          exact z
          rw [h1 ha]
          congr 1
          funext z
          simp
        · refine And.intro (by decide) (And.intro (by decide) (And.intro (big' (by show 1 * 0 ≤ 100000; decide)) ?_))
          refine And.intro (big' (by show (sD fs).length + 0 ≤ _; omega)) ?_
          have z := hn ⟨[.fz (.lst (sD ls)), .fz (.lst (wD ws)), .fz (.str "strike"), .ow (.lst (sD fs ++ [])), .fz (.int ((a + 1 : Nat) : Int))], β⟩ ⟨a + 1, fs, _, by rw [List.append_nil], by omega, ha, ?_⟩
          · exact z
          · rw [h1 ha]
            congr 1
    cases w with
    | kp =>
      refine And.intro (big' (by decide)) ?_
      refine And.intro (Or.inl ⟨rfl, rfl⟩) ?_
      refine taken .kp (.inl rfl) (fun e => ?_) (fun ha => ?_) m2
      · rw [hap, e, List.drop_length, app]; rfl
      · rw [hap, st_drop ha, app, Option.map_map]
        congr 1
    | st =>
      refine And.intro (big' (by decide)) ?_
      refine And.intro (Or.inl ⟨rfl, rfl⟩) ?_
      refine taken .st (.inr rfl) (fun e => ?_) (fun ha => ?_) m2
      · rw [hap, e, List.drop_length, app]; rfl
      · rw [hap, st_drop ha, app]
        congr 1
    | en =>
      refine And.intro (big' (by decide)) ?_
      refine And.intro (Or.inl ⟨rfl, rfl⟩) ?_
      refine And.intro ⟨_, rfl⟩ ?_
      refine And.intro (big (by omega)) ?_
      exact put _ (by rw [hap, app, Option.map_map]; rfl) _
    | el =>
      refine And.intro (big' (by decide)) ?_
      refine And.intro (Or.inl ⟨rfl, rfl⟩) ?_
      refine And.intro ⟨_, rfl⟩ ?_
      refine And.intro (big (by omega)) ?_
      exact put _ (by rw [hap, app, Option.map_map]; rfl) _
    | al =>
      refine And.intro (big' (by decide)) ?_
      refine And.intro (Or.inl ⟨rfl, rfl⟩) ?_
      refine And.intro ⟨_, rfl⟩ ?_
      refine And.intro (big (by omega)) ?_
      exact put _ (by rw [hap, app, Option.map_map]; rfl) _
  · rintro _ ⟨a, fs, m2, rfl, hf, hr, hap⟩
    rw [wD_len, List.drop_length] at hap
    refine Or.inl (And.intro (Or.inl ⟨rfl, rfl⟩) ?_)
    refine ifB (fun h => ?_) fun h => ?_
    · have h : eqD (.int (a : Int)) (.int ((sD ls).length : Int)) = true := h
      rw [eqD_int, decide_eq_true_eq, sD_len] at h
      have e : a = ls.length := by omega
      rw [e, List.drop_length] at hap
      rw [hap] at q
      refine ⟨rfl, ?_⟩
      have q : Q (.ow (.lst (sD (fs ++ [])))) := q
      rw [List.append_nil] at q
      exact q
    · have h : eqD (.int (a : Int)) (.int ((sD ls).length : Int)) = false := h
      rw [eqD_int, decide_eq_false_iff_not, sD_len] at h
      rw [hap, st_drop (by omega : a < ls.length)] at q
      exact ⟨rfl, q⟩
end
end K79

set_option Elab.async false
set_option linter.all false
set_option autoImplicit false
set_option maxRecDepth 100000
set_option maxHeartbeats 600000
/-! K79q: words that mend a stretch (plain). -/
namespace K79
open PySem PySem.Spec PyProof.Rows L2 DI
def appK : List Wd → List Kd → Option (List Kd)
  | [], [] => some []
  | [], _ :: _ => none
  | .kp :: _, [] => none
  | .kp :: ws, l :: ls => (appK ws ls).map (l :: ·)
  | .st :: _, [] => none
  | .st :: ws, _ :: ls => appK ws ls
  | .en :: ws, ls => (appK ws ls).map (.en :: ·)
  | .el :: ws, ls => (appK ws ls).map (.el :: ·)
  | .al :: ws, ls => (appK ws ls).map (.al :: ·)
theorem kind_put : kind "end" = .en ∧ kind "else" = .el ∧ kind "always" = .al := by decide +kernel
theorem appK_map : ∀ (ws : List Wd) (ls : List Str), appK ws (ls.map kind) = (app ws ls).map (·.map kind)
  | [], [] => rfl
  | [], _ :: _ => rfl
  | .kp :: _, [] => rfl
  | .kp :: ws, l :: ls => by
    rw [List.map_cons, appK, app, appK_map ws ls, Option.map_map, Option.map_map]
    rfl
  | .st :: _, [] => rfl
  | .st :: ws, l :: ls => by
    rw [List.map_cons, appK, app, appK_map ws ls]
  | .en :: ws, ls => by
    rw [appK, app, appK_map ws ls, Option.map_map, Option.map_map]
    congr 1
    funext z
    show _ = (("end" : Str) :: z).map kind
    rw [List.map_cons, kind_put.1]
    rfl
  | .el :: ws, ls => by
    rw [appK, app, appK_map ws ls, Option.map_map, Option.map_map]
    congr 1
    funext z
    show _ = (("else" : Str) :: z).map kind
    rw [List.map_cons, kind_put.2.1]
    rfl
  | .al :: ws, ls => by
    rw [appK, app, appK_map ws ls, Option.map_map, Option.map_map]
    congr 1
    funext z
    show _ = (("always" : Str) :: z).map kind
    rw [List.map_cons, kind_put.2.2]
    rfl
theorem appK_len : ∀ {ws : List Wd} {ls out : List Kd}, appK ws ls = some out → ws.countP takes = ls.length
  | [], [], _, _ => rfl
  | [], _ :: _, _, h => by cases h
  | .kp :: _, [], _, h => by cases h
  | .kp :: ws, l :: ls, out, h => by
    rw [appK, Option.map_eq_some_iff] at h
    obtain ⟨o, ho, rfl⟩ := h
    rw [List.countP_cons_of_pos rfl, appK_len ho]
    rfl
  | .st :: _, [], _, h => by cases h
  | .st :: ws, l :: ls, out, h => by
    rw [appK] at h
    rw [List.countP_cons_of_pos rfl, appK_len h]
    rfl
  | .en :: ws, ls, out, h => by
    rw [appK, Option.map_eq_some_iff] at h
    obtain ⟨o, ho, rfl⟩ := h
    rw [List.countP_cons_of_neg (by decide), appK_len ho]
  | .el :: ws, ls, out, h => by
    rw [appK, Option.map_eq_some_iff] at h
    obtain ⟨o, ho, rfl⟩ := h
    rw [List.countP_cons_of_neg (by decide), appK_len ho]
  | .al :: ws, ls, out, h => by
    rw [appK, Option.map_eq_some_iff] at h
    obtain ⟨o, ho, rfl⟩ := h
    rw [List.countP_cons_of_neg (by decide), appK_len ho]
theorem appK_append : ∀ {w1 w2 : List Wd} {k1 k2 o1 o2 : List Kd}, appK w1 k1 = some o1 → appK w2 k2 = some o2 → appK (w1 ++ w2) (k1 ++ k2) = some (o1 ++ o2)
  | [], _, [], _, _, _, h, h2 => by cases h; exact h2
  | [], _, _ :: _, _, _, _, h, _ => by cases h
  | .kp :: _, _, [], _, _, _, h, _ => by cases h
  | .kp :: ws, _, l :: ls, _, out, _, h, h2 => by
    rw [appK, Option.map_eq_some_iff] at h
    obtain ⟨o, ho, rfl⟩ := h
    rw [List.cons_append, List.cons_append, appK, appK_append ho h2]
    rfl
  | .st :: _, _, [], _, _, _, h, _ => by cases h
  | .st :: ws, _, l :: ls, _, out, _, h, h2 => by
    rw [appK] at h
    rw [List.cons_append, List.cons_append, appK, appK_append h h2]
  | .en :: ws, _, ls, _, out, _, h, h2 => by
    rw [appK, Option.map_eq_some_iff] at h
    obtain ⟨o, ho, rfl⟩ := h
    rw [List.cons_append, appK, appK_append ho h2]
    rfl
  | .el :: ws, _, ls, _, out, _, h, h2 => by
    rw [appK, Option.map_eq_some_iff] at h
    obtain ⟨o, ho, rfl⟩ := h
    rw [List.cons_append, appK, appK_append ho h2]
    rfl
  | .al :: ws, _, ls, _, out, _, h, h2 => by
    rw [appK, Option.map_eq_some_iff] at h
    obtain ⟨o, ho, rfl⟩ := h
    rw [List.cons_append, appK, appK_append ho h2]
    rfl
theorem ws_len : ∀ ws : List Wd, ws.length ≤ ws.countP takes + costW ws
  | [] => Nat.le_refl _
  | w :: ws => by
    have := ws_len ws
    cases w <;> simp [takes, costW, List.countP_cons] at * <;> omega
theorem costW_cons (w : Wd) (ws : List Wd) : costW (w :: ws) = (if w = .kp then 0 else 1) + costW ws := by
  unfold costW
  cases w <;> simp <;> omega
theorem costW_app (a b : List Wd) : costW (a ++ b) = costW a + costW b := by
  unfold costW
  rw [List.filter_append, List.length_append]
def seg (ks : List Kd) (b e : Nat) : List Kd := (ks.drop b).take (e - b)
theorem seg_cons {ks : List Kd} {b e : Nat} {x : Kd} (h : b < e) (hx : ks[b]? = some x) : seg ks b e = x :: seg ks (b + 1) e := by
  unfold seg
  rw [drop_at hx, show e - b = (e - (b + 1)) + 1 by omega, List.take_succ_cons]
theorem seg_len {ks : List Kd} {b e : Nat} (h : e ≤ ks.length) : (seg ks b e).length = e - b := by
  unfold seg
  rw [List.length_take, List.length_drop]
  omega
theorem seg_split {ks : List Kd} {b m e : Nat} (h1 : b ≤ m) (h2 : m ≤ e) : seg ks b e = seg ks b m ++ seg ks m e := by
  unfold seg
  rw [show e - b = (m - b) + (e - m) by omega, List.take_add, List.drop_drop, show b + (m - b) = m by omega]
theorem seg_nil (ks : List Kd) (b : Nat) : seg ks b b = [] := by
  unfold seg
  rw [Nat.sub_self, List.take_zero]
theorem seg_all (ks : List Kd) : seg ks 0 ks.length = ks := by
  unfold seg
  rw [List.drop_zero, Nat.sub_zero, List.take_length]
/-- the words give out what closes the part of a key -/
structure Told (ks : List Kd) (k : Ky) (n : Nat) (ws : List Wd) : Prop where
  cost : costW ws = n
  app : ∃ out, appK ws (seg ks k.b k.e) = some out ∧ ∀ rest st, acc (out ++ rest) (k.p :: st) = acc rest (after k.p st)
theorem Told.len {ks : List Kd} {k : Ky} {n : Nat} {ws : List Wd} (h : Told ks k n ws) (hk : k.ok ks.length) : ws.length ≤ (k.e - k.b) + n := by
  obtain ⟨hc, out, ha, _⟩ := h
  have := appK_len ha
  rw [seg_len hk.2] at this
  have := ws_len ws
  omega
theorem acc_set {x : Kd} {p q : Pt} {o rest : List Kd} {st : List Pt} (h : stp x p = .set q) (ho : ∀ rest st, acc (o ++ rest) (q :: st) = acc rest (after q st)) : acc ((x :: o) ++ rest) (p :: st) = acc rest (after p st) := by
  rw [List.cons_append, acc_cons, h]
  show acc (o ++ rest) (q :: st) = _
  rw [ho, after_eq (stp_set h)]
/-- a line is kept -/
theorem told_keep {ks : List Kd} {p q : Pt} {b e n : Nat} {x : Kd} {ws : List Wd} (hb : b < e) (hx : ks[b]? = some x) (hs : stp x p = .set q) (h : Told ks ⟨q, b + 1, e⟩ n ws) : Told ks ⟨p, b, e⟩ n (.kp :: ws) := by
  obtain ⟨hc, out, ha, ho⟩ := h
  refine ⟨by rw [costW_cons, if_pos rfl, hc, Nat.zero_add], x :: out, ?_, fun rest st => acc_set hs ho⟩
  rw [seg_cons hb hx, appK]
  simp only at ha
  rw [ha]
  rfl
/-- a line is struck -/
theorem told_strike {ks : List Kd} {p : Pt} {b e n : Nat} {x : Kd} {ws : List Wd} (hb : b < e) (hx : ks[b]? = some x) (h : Told ks ⟨p, b + 1, e⟩ n ws) : Told ks ⟨p, b, e⟩ (1 + n) (.st :: ws) := by
  obtain ⟨hc, out, ha, ho⟩ := h
  refine ⟨by rw [costW_cons, if_neg (by decide), hc], out, ?_, ho⟩
  rw [seg_cons hb hx, appK]
  exact ha
def wdOf : Pt → Wd
  | .el => .el
  | .al => .al
  | _ => .en
/-- a line is put in -/
theorem told_put {ks : List Kd} {p : Pt} {b e n : Nat} {ws : List Wd} (hp : p = .el ∨ p = .al) (h : Told ks ⟨.en, b, e⟩ n ws) : Told ks ⟨p, b, e⟩ (1 + n) (wdOf p :: ws) := by
  obtain ⟨hc, out, ha, ho⟩ := h
  rcases hp with rfl | rfl
  · refine ⟨by rw [costW_cons, if_neg (by decide), hc], .el :: out, ?_, fun rest st => acc_set (p := .el) (q := .en) rfl ho⟩
    show appK (.el :: ws) _ = _
    rw [appK]
    simp only at ha
    rw [ha]
    rfl
  · refine ⟨by rw [costW_cons, if_neg (by decide), hc], .al :: out, ?_, fun rest st => acc_set (p := .al) (q := .en) rfl ho⟩
    show appK (.al :: ws) _ = _
    rw [appK]
    simp only at ha
    rw [ha]
    rfl
def wordOf (k : Ky) (t : Nat × Ky) : Wd := if t.1 = 0 then .kp else if t.2.b = k.b then wdOf k.p else .st
theorem here_at {ks : List Kd} {k : Ky} {x : Kd} (h : hereK ks k = x) (hx : x ≠ .no) : k.b < k.e ∧ ks[k.b]? = some x := by
  have hb := here_no (ks := ks) (k := k) (by rw [h]; exact hx)
  refine ⟨hb, ?_⟩
  unfold hereK at h
  rw [if_pos hb] at h
  cases e : ks[k.b]? with
  | none => rw [e] at h; exact absurd h.symm hx
  | some y => rw [e] at h; exact congrArg some h
theorem told_turn {ks : List Kd} {k : Ky} {n : Nat} {t : Nat × Ky} {ws : List Wd} (hk : k.ok ks.length) (ht : t ∈ turnsK ks k) (h : Told ks t.2 n ws) : Told ks k (t.1 + n) (wordOf k t :: ws) := by
  have ht' := ht
  unfold turnsK turnsF at ht
  have hh := here_at (ks := ks) (k := k) rfl
  generalize hereK ks k = x at ht hh
  obtain ⟨p, b, e⟩ := k
  obtain ⟨h1, h2⟩ := hk
  simp only at h1 h2 hh
  simp only [List.mem_append] at ht
  rcases ht with (((ht | ht) | ht) | ht) | ht
  · by_cases hb : b < e
    · rw [decide_eq_true hb, if_pos rfl, List.mem_singleton] at ht
      subst ht
      have hw : wordOf ⟨p, b, e⟩ (1, ⟨p, b + 1, e⟩) = .st := by
        unfold wordOf
        rw [if_neg (by simp), if_neg (by simp)]
      rw [hw]
      exact told_strike hb (List.getElem?_eq_getElem (by omega)) h
    · rw [decide_eq_false hb, if_neg (by decide)] at ht
      cases ht
  · split at ht
    · rename_i hc
      rw [List.mem_singleton] at ht
      subst ht
      obtain ⟨rfl, hp⟩ := hc
      obtain ⟨q1, q2⟩ := hh (by decide)
      show Told ks ⟨p, b, e⟩ (0 + n) _
      rw [Nat.zero_add]
      exact told_keep q1 q2 (by cases p <;> first | rfl | exact absurd rfl hp) h
    · cases ht
  · split at ht
    · rename_i hc
      rw [List.mem_singleton] at ht
      subst ht
      obtain ⟨rfl, hp⟩ := hc
      obtain ⟨q1, q2⟩ := hh (by decide)
      show Told ks ⟨p, b, e⟩ (0 + n) _
      rw [Nat.zero_add]
      exact told_keep q1 q2 (by rcases hp with hp | hp <;> (have hp : p = _ := hp; rw [hp]; rfl)) h
    · cases ht
  · split at ht
    · rename_i hc
      have hc : p = .el ∨ p = .al := hc
      rcases List.mem_append.mp ht with ht | ht
      · rw [List.mem_singleton] at ht
        subst ht
        have hw : wordOf ⟨p, b, e⟩ (1, ⟨.en, b, e⟩) = wdOf p := by
          unfold wordOf
          rw [if_neg (by simp), if_pos rfl]
        rw [hw]
        exact told_put hc h
      · split at ht
        · rename_i hd
          rw [List.mem_singleton] at ht
          subst ht
          show Told ks ⟨p, b, e⟩ (0 + n) _
          rw [Nat.zero_add]
          rcases hd with ⟨rfl, hp⟩ | ⟨rfl, hp⟩
          · obtain ⟨q1, q2⟩ := hh (by decide)
            exact told_keep q1 q2 (by have hp : p = _ := hp; rw [hp]; rfl) h
          · obtain ⟨q1, q2⟩ := hh (by decide)
            exact told_keep q1 q2 (by have hp : p = _ := hp; rw [hp]; rfl) h
        · cases ht
    · cases ht
  · split at ht
    · rename_i hc
      rw [List.mem_singleton] at ht
      subst ht
      obtain ⟨rfl, hp⟩ := hc
      obtain ⟨q1, q2⟩ := hh (by decide)
      show Told ks ⟨p, b, e⟩ (0 + n) _
      rw [Nat.zero_add]
      exact told_keep q1 q2 (by have hp : p = _ := hp; rw [hp]; rfl) h
    · cases ht
theorem told_block {ks : List Kd} {k : Ky} {n m : Nat} {t : Ky × Ky} {w1 w2 : List Wd} (hk : k.ok ks.length) (ht : t ∈ blocksK ks k) (h1 : Told ks t.1 n w1) (h2 : Told ks t.2 m w2) : Told ks k (n + m) (.kp :: (w1 ++ w2)) := by
  unfold blocksK blocksF at ht
  have hh := here_at (ks := ks) (k := k) rfl
  generalize hereK ks k = x at ht hh
  obtain ⟨p, b, e⟩ := k
  simp only at hh ht
  split at ht
  · cases ht
  · rename_i hp
    split at ht
    · cases ht
    · rename_i i hi
      rw [List.mem_map] at ht
      obtain ⟨j, hj, rfl⟩ := ht
      rw [List.mem_range] at hj
      obtain ⟨q1, q2⟩ := hh (by rintro rfl; cases hi)
      have hs : stp x p = .push i ∧ i ≠ .rw := by
        cases x <;> first | (cases hi; done) | skip
        all_goals
          cases hi
          refine ⟨?_, by decide⟩
          cases p <;> first | rfl | exact absurd rfl hp
      obtain ⟨c1, o1, a1, r1⟩ := h1
      obtain ⟨c2, o2, a2, r2⟩ := h2
      simp only at a1 a2 r1 r2
      refine ⟨by rw [costW_cons, if_pos rfl, costW_app, c1, c2, Nat.zero_add], x :: (o1 ++ o2), ?_, fun rest st => ?_⟩
      · show appK (.kp :: (w1 ++ w2)) (seg ks b e) = _
        rw [seg_cons q1 q2, appK, seg_split (m := b + 1 + j) (by omega) (by omega), appK_append a1 a2]
        rfl
      · show acc (x :: (o1 ++ o2) ++ rest) (p :: st) = acc rest (after p st)
        rw [List.cons_append, acc_cons, hs.1]
        show acc (o1 ++ o2 ++ rest) (i :: p :: st) = _
        rw [List.append_assoc, r1]
        have : after i (p :: st) = p :: st := by unfold after; rw [if_neg hs.2]
        rw [this, r2]
theorem told_ends {ks : List Kd} {k : Ky} {n : Nat} (h : n ∈ endsK ks k) : Told ks k n (if k.b = k.e then List.replicate n .en else [.kp]) := by
  obtain ⟨p, b, e⟩ := k
  unfold endsK at h
  rw [List.mem_append] at h
  rcases h with h | h
  · split at h
    · rename_i hc
      simp only at hc
      obtain ⟨rfl, rfl⟩ := hc
      rw [List.mem_singleton] at h
      subst h
      rw [if_pos rfl]
      exact ⟨rfl, [], by rw [seg_nil]; rfl, fun rest st => rfl⟩
    · cases h
  · split at h
    · rename_i hp
      simp only at hp
      rw [List.mem_append] at h
      rcases h with h | h
      · split at h
        · rename_i hc
          simp only at hc
          subst hc
          rw [List.mem_singleton] at h
          subst h
          rw [if_pos rfl]
          refine ⟨rfl, [.en], by rw [seg_nil]; rfl, fun rest st => ?_⟩
          rcases hp with rfl | rfl | rfl <;> rfl
        · cases h
      · split at h
        · rename_i hc
          simp only at hc
          obtain ⟨rfl, hx⟩ := hc
          rw [List.mem_singleton] at h
          subst h
          rw [if_neg (by simp only; omega)]
          refine ⟨rfl, [.en], ?_, fun rest st => ?_⟩
          · show appK [.kp] (seg ks b (b + 1)) = _
            rw [seg_cons (by omega) hx, seg_nil]
            rfl
          · rcases hp with rfl | rfl | rfl <;> rfl
        · cases h
    · cases h
/-- what is told for a whole text -/
theorem told_text {ls : List Str} {n : Nat} {ws : List Wd} (h : Told (ls.map kind) ⟨.rw, 0, ls.length⟩ n ws) : ∃ out, app ws ls = some out ∧ acc (out.map kind) [.rw] = true ∧ costW ws = n := by
  obtain ⟨hc, o, ha, hr⟩ := h
  have e : seg (ls.map kind) 0 ls.length = ls.map kind := by
    have := seg_all (ls.map kind)
    rwa [List.length_map] at this
  simp only at ha hr
  rw [e, appK_map, Option.map_eq_some_iff] at ha
  obtain ⟨out, h1, rfl⟩ := ha
  refine ⟨out, h1, ?_, hc⟩
  have := hr [] []
  rw [List.append_nil] at this
  rw [this]
  rfl
end K79

set_option Elab.async false
set_option linter.all false
set_option autoImplicit false
set_option maxRecDepth 100000
set_option maxHeartbeats 600000
/-! K79r: told_by, mend. -/
namespace K79
open PySem PySem.Spec PyProof.Rows L2 DI
theorem rep_end (n : Nat) : (List.replicate n [D.str "end"]).flatten = wD (List.replicate n .en) := by
  induction n with
  | zero => rfl
  | succ n ih =>
    rw [List.replicate_succ, List.flatten_cons, ih]
    rfl
theorem kyD_get {l : List (Nat × Ky)} {i : Nat} {d : D} (h : (kyD l)[i]? = some d) : ∃ t, l[i]? = some t ∧ d = .tup [.int (t.1 : Int), t.2.d] := by
  unfold kyD at h
  rw [List.getElem?_map] at h
  cases e : l[i]? with
  | none => rw [e] at h; cases h
  | some k => rw [e] at h; cases h; exact ⟨k, rfl, rfl⟩
theorem first_of {α : Type} {f : α → Option D} : ∀ {l : List α} {x : α}, x ∈ l → (f x).isSome = true → ∃ y d, y ∈ l ∧ f y = some d ∧ (l.filterMap f)[0]? = some d
  | a :: l, x, hx, hs => by
    rw [List.filterMap_cons]
    cases e : f a with
    | some d => exact ⟨a, d, List.mem_cons_self, e, rfl⟩
    | none =>
      rcases List.mem_cons.mp hx with rfl | hx
      · rw [e] at hs; cases hs
      · obtain ⟨y, d, h1, h2, h3⟩ := first_of hx hs
        exact ⟨y, d, List.mem_cons_of_mem _ h1, h2, h3⟩
section
variable {T : Tb} {β : Option Bag}
def toldSp (W : Program × World) (n : Nat) : DSp := fun β ds Q => ∃ (ks : List Kd) (k : Ky) (kvs : List (NestedKey × D × D)), ds = [.dcn W kvs, .lst (kD ks), k.d] ∧ k.ok ks.length ∧ ks.length ≤ 20 ∧ k.rk < n ∧ (∀ j : Ky, j.ok ks.length → TabK kvs (tb ks) j) ∧ ∀ ws, Told ks k (tb ks k) ws → Q (.ow (.lst (wD ws)))
theorem told_mono (W : Program × World) (n : Nat) (β : Option Bag) (ds : List D) (Q Q' : R → Prop) (f : ∀ r, Q r → Q' r) (h : toldSp W n β ds Q) : toldSp W n β ds Q' := by
  obtain ⟨ks, k, kvs, h1, h2, h3, h4, h5, h6⟩ := h
  exact ⟨ks, k, kvs, h1, h2, h3, h4, h5, fun ws hw => f _ (h6 ws hw)⟩
theorem told_ar (W : Program × World) (n : Nat) (β : Option Bag) (ds : List D) (Q : R → Prop) (h : toldSp W n β ds Q) : ds.length = 3 := by
  obtain ⟨ks, k, kvs, rfl, _⟩ := h
  rfl
theorem told_zero (W : Program × World) (β : Option Bag) (ds : List D) (Q : R → Prop) : ¬ toldSp W 0 β ds Q := fun h => by
  obtain ⟨ks, k, kvs, _, _, _, h, _⟩ := h
  omega
theorem tb_small {ks : List Kd} {k : Ky} (hk : k.ok ks.length) (h20 : ks.length ≤ 20) : tb ks k ≤ 22 := by
  have := (tb_le ks k.rk k hk.1 (Nat.le_refl _)).1
  have := hk.1
  have := hk.2
  omega
theorem wD_cons (w : Wd) (ws : List Wd) : wD (w :: ws) = .str w.s :: wD ws := rfl
theorem wD_app (a b : List Wd) : wD (a ++ b) = wD a ++ wD b := List.map_append ..
theorem told_ev {n : Nat} (t4 : T.fn 4 = endsSp) (t5 : T.fn 5 = turnsSp) (t6 : T.fn 6 = blocksSp) (t11 : T.fn 11 = toldSp T.W n) {ds : List D} {Q : R → Prop} (h : toldSp T.W (n + 1) β ds Q) : evB T Tx.bd_told_by (sta 13 ds β) (finE β Q) := by
  obtain ⟨ks, k, kvs, rfl, hk, h20, hn, htb, q⟩ := h
  have hsm := tb_small hk h20
  have hspec := tb_spec ks hk.1
  show evB T Tx.bd_told_by ⟨[.fz (.dcn T.W kvs), .fz (.lst (kD ks)), .fz (.tup [.str k.p.s, .int (k.b : Int), .int (k.e : Int)]), .un, .un, .un, .un, .un, .un, .un, .un, .un, .un], β⟩ _
  refine Exists.intro _ (And.intro rfl ?_)
  refine ⟨rfl, k.nk, _, rfl, k.dep, htb k hk, ?_⟩
  show T.fn 4 β (argsK ks k) _
  rw [t4]
  refine ⟨ks, k, rfl, hk, by omega, ?_⟩
  refine And.intro (.inl ⟨rfl, nD_pf _⟩) ?_
  refine ifB (fun h => ?_) fun h => ?_
  · have h : inD (.int (tb ks k : Nat)) (nD (endsK ks k)) = true := h
    rw [inD_nD, decide_eq_true_eq] at h
    have ht := told_ends h
    refine Or.inl (And.intro (Or.inl ⟨rfl, rfl⟩) ?_)
    refine ifI (fun hb => ?_) fun hb => ?_
    · rw [if_pos (by omega)] at ht
      refine And.intro (by (first | exact big' (by decide) | exact big (by decide) | exact big' (by simp; done) | exact big (by simp; done))) ?_
      refine And.intro (by omega) (And.intro (by omega) (And.intro (big' (by simp; omega)) ?_))
      refine ⟨rfl, ?_⟩
      show Q (.ow (.lst (List.replicate (Int.toNat (tb ks k : Nat)) [D.str "end"]).flatten))
      rw [Int.toNat_natCast, rep_end]
      exact q _ ht
    · rw [if_neg (by omega)] at ht
      refine And.intro (by (first | exact big' (by decide) | exact big (by decide) | exact big' (by simp; done) | exact big (by simp; done))) ?_
      exact ⟨rfl, q _ ht⟩
  have h : inD (.int (tb ks k : Nat)) (nD (endsK ks k)) = false := h
  rw [inD_nD, decide_eq_false_iff_not] at h
  show T.fn 5 β (argsK ks k) _
  rw [t5]
  refine ⟨ks, k, rfl, hk, by omega, ?_⟩
  show forD _ (kyD (turnsK ks k)) _ _
  refine forI (fun i ρ => (∀ j t, j < i → (turnsK ks k)[j]? = some t → t.1 + tb ks t.2 ≠ tb ks k) ∧ ∃ (m8 m9 : M), ρ = ⟨[.fz (.dcn T.W kvs), .fz (.lst (kD ks)), .fz (.tup [.str k.p.s, .int (k.b : Int), .int (k.e : Int)]), .fz (.int (tb ks k : Nat)), .un, .fz (.str k.p.s), .fz (.int (k.b : Int)), .fz (.int (k.e : Int)), m8, m9, .un, .un, .un], β⟩) ⟨fun j _ h => by omega, .un, .un, rfl⟩ ?_ ?_
  · rintro i d _ E2 hd ⟨hno, m8, m9, rfl⟩ hnx - hrt -
    obtain ⟨t, ht, rfl⟩ := kyD_get hd
    have hm : t ∈ turnsK ks k := List.mem_of_getElem? ht
    obtain ⟨tok, tlow⟩ := turns_low hk hm
    have trk := low_rk tlow
    refine Exists.intro _ (And.intro rfl ?_)
    refine ⟨rfl, t.2.nk, _, rfl, t.2.dep, htb _ tok, ?_⟩
    refine Or.inl (And.intro (Or.inl ⟨rfl, rfl⟩) ?_)
    refine ifI (fun he => ?_) fun he => ?_
    · have he : t.1 + tb ks t.2 = tb ks k := by omega
      have hsub := tb_small tok h20
      have fin : ∀ w : Wd, w = wordOf k t → evB T [.ret (.lst (.cons (.var 11) (.star (.call 11 (.cons (.var 0) (.cons (.var 1) (.cons (.var 9) .nil)))) .nil)))] ⟨[.fz (.dcn T.W kvs), .fz (.lst (kD ks)), .fz (.tup [.str k.p.s, .int (k.b : Int), .int (k.e : Int)]), .fz (.int (tb ks k : Nat)), .un, .fz (.str k.p.s), .fz (.int (k.b : Int)), .fz (.int (k.e : Int)), .fz (.int (t.1 : Int)), .fz t.2.d, .un, .fz (.str w.s), .un], β⟩ E2 := fun w hw => by
        show T.fn 11 β [.dcn T.W kvs, .lst (kD ks), t.2.d] _
        rw [t11]
        refine ⟨ks, t.2, kvs, rfl, tok, h20, by omega, htb, fun ws hws => ?_⟩
        have hl := hws.len tok
        have := tok.1
        have := tok.2
        refine ⟨_, rfl, ?_⟩
        have e1 : wD ws ++ [] = wD ws := List.append_nil _
        refine And.intro (big' ?_) ?_
        · show (D.str w.s :: (wD ws ++ [])).length ≤ 100000
          rw [e1, List.length_cons, wD_len]
          omega
        · refine hrt _ _ ⟨rfl, ?_⟩
          have := q (wordOf k t :: ws) (he ▸ told_turn hk hm hws)
          rw [wD_cons, ← hw] at this
          show Q (.ow (.lst (D.str w.s :: (wD ws ++ []))))
          rw [e1]
          exact this
      refine Or.inl (And.intro (Or.inl ⟨rfl, rfl⟩) ?_)
      refine ifI (fun hp => ?_) fun hp => ?_
      · exact fin .kp (by unfold wordOf; rw [if_pos (by omega)])
      · refine Exists.intro _ (And.intro rfl ?_)
        refine Or.inl (And.intro (Or.inl ⟨rfl, rfl⟩) ?_)
        refine ifI (fun hb => ?_) fun hb => ?_
        · have hb : t.2.b = k.b := by omega
          have hpp : k.p = .el ∨ k.p = .al := by
            unfold turnsK turnsF at hm
            simp only [List.mem_append] at hm
            rcases hm with (((hm | hm) | hm) | hm) | hm
            · split at hm
              · rw [List.mem_singleton] at hm; rw [hm] at hb; simp only at hb; omega
              · cases hm
            · split at hm
              · rw [List.mem_singleton] at hm; rw [hm] at hb; simp only at hb; omega
              · cases hm
            · split at hm
              · rw [List.mem_singleton] at hm; rw [hm] at hb; simp only at hb; omega
              · cases hm
            · split at hm
              · rename_i hc; exact hc
              · cases hm
            · split at hm
              · rw [List.mem_singleton] at hm; rw [hm] at hb; simp only at hb; omega
              · cases hm
          have := fin (wdOf k.p) (by unfold wordOf; rw [if_neg (by omega), if_pos hb])
          have e : (wdOf k.p).s = k.p.s := by rcases hpp with h | h <;> (rw [h]; rfl)
          rw [e] at this
          exact this
        · exact fin .st (by unfold wordOf; rw [if_neg (by omega), if_neg (by omega)])
    · refine hnx _ ⟨fun j t' hj ht' => ?_, _, _, rfl⟩
      by_cases e : j = i
      · subst e
        rw [ht] at ht'
        cases ht'
        omega
      · exact hno j t' (by omega) ht'
  · rintro _ ⟨hno, m8, m9, rfl⟩
    have hnoT : ∀ t ∈ turnsK ks k, t.1 + tb ks t.2 ≠ tb ks k := fun t ht => by
      obtain ⟨j, hj, rfl⟩ := List.getElem_of_mem ht
      refine hno j _ ?_ (List.getElem?_eq_getElem hj)
      show j < (kyD (turnsK ks k)).length
      unfold kyD
      rw [List.length_map]
      exact hj
    obtain ⟨t0, ht0, hb0⟩ : ∃ t ∈ blocksK ks k, tb ks t.1 + tb ks t.2 = tb ks k := by
      have hm := hspec.1
      unfold bndK at hm
      rw [List.mem_append, List.mem_append] at hm
      rcases hm with (hm | hm) | hm
      · exact absurd hm h
      · obtain ⟨t, ht, e⟩ := List.mem_map.mp hm
        exact absurd e (hnoT t ht)
      · obtain ⟨t, ht, e⟩ := List.mem_map.mp hm
        exact ⟨t, ht, e⟩
    have hbl := blocks_len ks k
    have hk2 := hk.2
    show T.fn 6 β (argsK ks k) _
    rw [t6]
    refine ⟨ks, k, rfl, hk, by omega, ?_⟩
    let F : Ky × Ky → Option D := fun t => if tb ks t.1 + tb ks t.2 = tb ks k then some (.tup [t.1.d, t.2.d]) else none
    refine compGf (fun t : Ky × Ky => .tup [t.1.d, t.2.d]) F (blocksK ks k) (big (by omega)) (fun t ht c hc => ?_) ?_
    · obtain ⟨⟨o1, _⟩, o2, _⟩ := blocks_low hk ht
      refine Exists.intro _ (And.intro rfl ?_)
      refine ⟨rfl, t.1.nk, _, rfl, t.1.dep, htb _ o1, ?_⟩
      refine Exists.intro _ (And.intro rfl ?_)
      refine ⟨rfl, t.2.nk, _, rfl, t.2.dep, htb _ o2, ?_⟩
      refine Or.inl (And.intro (Or.inl ⟨rfl, rfl⟩) ?_)
      refine ifI (fun he => ?_) fun he => ?_
      · have e : F t = some (.tup [t.1.d, t.2.d]) := if_pos (by omega)
        rw [e] at hc
        exact hc
      · have e : F t = none := if_neg (by omega)
        rw [e] at hc
        exact hc
    · obtain ⟨t, d, hm, hF, h0⟩ := first_of (f := F) ht0 (by show (if _ then _ else _ : Option D).isSome = true; rw [if_pos hb0]; rfl)
      have hF2 : tb ks t.1 + tb ks t.2 = tb ks k ∧ d = .tup [t.1.d, t.2.d] := by
        by_cases e : tb ks t.1 + tb ks t.2 = tb ks k
        · have : F t = some (.tup [t.1.d, t.2.d]) := if_pos e
          rw [this] at hF
          exact ⟨e, (Option.some.inj hF).symm⟩
        · have : F t = none := if_neg e
          rw [this] at hF
          cases hF
      obtain ⟨he, rfl⟩ := hF2
      obtain ⟨⟨o1, l1⟩, o2, l2⟩ := blocks_low hk hm
      have r1 := low_rk l1
      have r2 := low_rk l2
      have s1 := tb_small o1 h20
      have s2 := tb_small o2 h20
      refine Exists.intro _ (And.intro (atN (i := 0) h0) ?_)
      refine Exists.intro _ (And.intro rfl ?_)
      show T.fn 11 β [.dcn T.W kvs, .lst (kD ks), t.1.d] _
      rw [t11]
      refine ⟨ks, t.1, kvs, rfl, o1, h20, by omega, htb, fun w1 hw1 => ?_⟩
      refine ⟨_, rfl, ?_⟩
      show T.fn 11 β [.dcn T.W kvs, .lst (kD ks), t.2.d] _
      rw [t11]
      refine ⟨ks, t.2, kvs, rfl, o2, h20, by omega, htb, fun w2 hw2 => ?_⟩
      have hl1 := hw1.len o1
      have hl2 := hw2.len o2
      have := o1.1
      have := o1.2
      have := o2.1
      have := o2.2
      refine ⟨_, rfl, ?_⟩
      have e1 : D.str "keep" :: (wD w1 ++ (wD w2 ++ [])) = wD (.kp :: (w1 ++ w2)) := by
        rw [List.append_nil, wD_cons, wD_app]
        rfl
      refine And.intro (big' ?_) ?_
      · show (D.str "keep" :: (wD w1 ++ (wD w2 ++ []))).length ≤ 100000
        rw [e1, wD_len, List.length_cons, List.length_append]
        omega
      · refine ⟨rfl, ?_⟩
        show Q (.ow (.lst (D.str "keep" :: (wD w1 ++ (wD w2 ++ [])))))
        rw [e1]
        exact q _ (he ▸ told_block hk hm hw1 hw2)
def MendW (ls : List Str) (ws : List Wd) : Prop := ∃ out, app ws ls = some out ∧ acc (out.map kind) [.rw] = true ∧ costW ws = tb (ls.map kind) ⟨.rw, 0, ls.length⟩
def mendSp : DSp := fun β ds Q => ∃ ls : List Str, ds = [.str (textOf ls)] ∧ Lns ls ∧ ls.length ≤ 20 ∧ ∀ ws, MendW ls ws → ws.length ≤ 42 → Q (.ow (.lst (wD ws)))
theorem mend_mono (β : Option Bag) (ds : List D) (Q Q' : R → Prop) (f : ∀ r, Q r → Q' r) (h : mendSp β ds Q) : mendSp β ds Q' := by
  obtain ⟨ls, h1, h2, h3, h4⟩ := h
  exact ⟨ls, h1, h2, h3, fun ws a b => f _ (h4 ws a b)⟩
theorem mend_ar (β : Option Bag) (ds : List D) (Q : R → Prop) (h : mendSp β ds Q) : ds.length = 1 := by
  obtain ⟨n, rfl, _⟩ := h
  rfl
theorem mend_ev (t3 : T.fn 3 = kindsSp) (t9 : T.fn 9 = floorSp T.W) (t11 : T.fn 11 = toldSp T.W 50) {ds : List D} {Q : R → Prop} (h : mendSp β ds Q) : evB T Tx.bd_mend (sta 2 ds β) (finE β Q) := by
  obtain ⟨ls, rfl, hls, h20, q⟩ := h
  show evB T Tx.bd_mend ⟨[.fz (.str (textOf ls)), .un], β⟩ _
  show T.fn 3 β [.str (textOf ls)] _
  rw [t3]
  refine ⟨ls, rfl, hls, ?_⟩
  show T.fn 9 β [.str (textOf ls)] _
  rw [t9]
  refine ⟨ls, rfl, hls, fun L hL => ?_⟩
  refine And.intro (by (first | exact big' (by decide) | exact big (by decide) | exact big' (by simp; done) | exact big (by simp; done))) ?_
  show T.fn 11 β [.dcn T.W (ent (tb (ls.map kind)) L), .lst (kD (ls.map kind)), Ky.d ⟨.rw, 0, (kD (ls.map kind)).length⟩] _
  have e : (kD (ls.map kind)).length = ls.length := by rw [kD_len, List.length_map]
  rw [t11, e]
  have e2 : (ls.map kind).length = ls.length := List.length_map ..
  have hok : (⟨.rw, 0, ls.length⟩ : Ky).ok (ls.map kind).length := ⟨Nat.zero_le _, by rw [e2]; exact Nat.le_refl _⟩
  refine ⟨_, _, _, rfl, hok, by rw [e2]; exact h20, ?_, fun j hj => val_ent (hL.mem_iff.mpr (keys_mem.mpr (e2 ▸ hj))), fun ws hws => ?_⟩
  · unfold Ky.rk
    simp
    omega
  · have h1 := hws.len hok
    have h2 := tb_small hok (by rw [e2]; exact h20)
    simp only at h1
    exact ⟨rfl, q ws (told_text hws) (by omega)⟩
end
end K79

set_option Elab.async false
set_option linter.all false
set_option autoImplicit false
set_option maxRecDepth 100000
set_option maxHeartbeats 600000
/-! K79s: whether any value is a mend: is_mend, the law's own. -/
namespace K79
open PySem PySem.Spec PyProof.Rows L2 DI
def five : List Str := ["keep", "strike", "end", "else", "always"]
def isW : D → Bool
  | .str s => decide (s ∈ five)
  | _ => false
theorem isW_wd : ∀ {xs : List D}, xs.all isW = true → ∃ ws : List Wd, xs = wD ws
  | [], _ => ⟨[], rfl⟩
  | x :: xs, h => by
    rw [List.all_cons, Bool.and_eq_true] at h
    obtain ⟨ws, rfl⟩ := isW_wd h.2
    have hx := h.1
    cases x <;> first | (cases hx; done) | skip
    rename_i s
    have hx : decide (s ∈ five) = true := hx
    rw [decide_eq_true_eq] at hx
    simp only [five, List.mem_cons, List.not_mem_nil, or_false] at hx
    rcases hx with rfl | rfl | rfl | rfl | rfl
    · exact ⟨.kp :: ws, rfl⟩
    · exact ⟨.st :: ws, rfl⟩
    · exact ⟨.en :: ws, rfl⟩
    · exact ⟨.el :: ws, rfl⟩
    · exact ⟨.al :: ws, rfl⟩
theorem wd_isW : ∀ ws : List Wd, (wD ws).all isW = true
  | [] => rfl
  | w :: ws => by
    rw [wD_cons, List.all_cons, wd_isW ws]
    cases w <;> decide
noncomputable def isMend (ls : List Str) (d : D) : Bool := open Classical in decide (∃ ws out, d = .lst (wD ws) ∧ app ws ls = some out ∧ acc (out.map kind) [.rw] = true)
theorem wd_inj : ∀ {v w : List Wd}, wD v = wD w → v = w
  | [], [], _ => rfl
  | [], _ :: _, h => by cases h
  | _ :: _, [], h => by cases h
  | a :: v, b :: w, h => by
    rw [wD_cons, wD_cons, List.cons.injEq] at h
    rw [wd_inj h.2]
    have := h.1
    cases a <;> cases b <;> first | rfl | exact absurd this (by simp [Wd.s]; decide)
theorem isMend_wd {ls : List Str} {ws : List Wd} : isMend ls (.lst (wD ws)) = match app ws ls with
    | some out => acc (out.map kind) [.rw]
    | none => false := by
  classical
  unfold isMend
  cases e : app ws ls with
  | none =>
    rw [decide_eq_false_iff_not]
    rintro ⟨v, out, h, h2, _⟩
    cases wd_inj (D.lst.inj h)
    rw [e] at h2
    cases h2
  | some o =>
    rw [Bool.eq_iff_iff, decide_eq_true_eq]
    constructor
    · rintro ⟨v, out, h, h2, h3⟩
      cases wd_inj (D.lst.inj h)
      rw [e] at h2
      cases h2
      exact h3
    · intro h
      exact ⟨ws, o, rfl, e, h⟩
theorem isMend_no {ls : List Str} {d : D} (h : ∀ ws, d ≠ .lst (wD ws)) : isMend ls d = false := by
  classical
  unfold isMend
  rw [decide_eq_false_iff_not]
  rintro ⟨v, out, e, _⟩
  exact h v e
theorem isMend_nw {ls : List Str} {xs : List D} (h : xs.all isW = false) : isMend ls (.lst xs) = false := isMend_no fun ws e => by
  cases e
  rw [wd_isW] at h
  cases h
/-- any value -/
def Thg (d : D) : Prop := gd 0 d = true ∧ ∀ xs, d = .lst xs → Short xs
theorem OddV.thg {d : D} (h : OddV d) : Thg d := ⟨h.1.g, h.2⟩
theorem Short.len {xs : List D} (h : Short xs) : xs.length ≤ 2001 := by
  rcases h with h | ⟨r, rfl, h⟩
  · omega
  · rw [List.length_cons]; omega
theorem Short.wd {ws : List Wd} (h : Short (wD ws)) : ws.length ≤ 50 := by
  rcases h with h | ⟨r, e, h⟩
  · rwa [wD_len] at h
  · cases ws with
    | nil => cases e
    | cons w ws => rw [wD_cons] at e; cases e
section
variable {T : Tb} {β : Option Bag}
def ismSp : DSp := fun β ds Q => ∃ (ls : List Str) (d : D), ds = [.str (textOf ls), d] ∧ Lns ls ∧ Thg d ∧ Q (.fz (.bl (isMend ls d)))
theorem ism_mono (β : Option Bag) (ds : List D) (Q Q' : R → Prop) (f : ∀ r, Q r → Q' r) (h : ismSp β ds Q) : ismSp β ds Q' := by
  obtain ⟨ls, d, h1, h2, h3, h4⟩ := h
  exact ⟨ls, d, h1, h2, h3, f _ h4⟩
theorem ism_ar (β : Option Bag) (ds : List D) (Q : R → Prop) (h : ismSp β ds Q) : ds.length = 2 := by
  obtain ⟨ls, d, rfl, _⟩ := h
  rfl
theorem gdA_mem {xs : List D} (h : gdA 0 xs = true) : ∀ x ∈ xs, gd 0 x = true := gdA_iff.mp h
theorem all_bl (xs : List D) (f : D → Bool) : xs.filterMap (fun d => some (D.bl (f d))) = (xs.map f).map D.bl := by
  induction xs with
  | nil => rfl
  | cons x xs ih => rw [List.filterMap_cons, ih]; rfl
def putF (w : Wd) : Option D := if takes w = true then some (.str w.s) else none
theorem putF_len : ∀ ws : List Wd, (ws.filterMap putF).length = ws.countP takes
  | [] => rfl
  | w :: ws => by
    have := putF_len ws
    cases w <;> simp [putF, takes, this, List.countP_cons]
theorem ism_ev (hg : T.gl = glf) (t2 : T.fn 2 = kindSp) (t3 : T.fn 3 = kindsSp) (t14 : T.fn 14 = closeSp) (t16 : T.fn 16 = leftSp) {ds : List D} {Q : R → Prop} (h : ismSp β ds Q) : evB T Tx.bd_is_mend (sta 5 ds β) (finE β Q) := by
  obtain ⟨W, fn, gl, xfn, cn, fx, tabs, gd⟩ := T
  have hg : gl = glf := hg
  subst hg
  obtain ⟨ls, d, rfl, hls, ⟨hgd, hsh⟩, q⟩ := h
  show evB _ Tx.bd_is_mend ⟨[.fz (.str (textOf ls)), .fz d, .un, .un, .un], β⟩ _
  refine Exists.intro _ (And.intro rfl ?_)
  refine And.intro (by (first | exact big' (by decide) | exact big (by decide) | exact big' (by simp; done) | exact big (by simp; done))) ?_
  have no : (∀ xs, d ≠ .lst xs) → isiB d "list" = some false → evB ⟨W, fn, glf, xfn, cn, fx, tabs, gd⟩ (Tx.bd_is_mend.drop 1) ⟨[.fz (.str (textOf ls)), .fz d, .fz (.tup (sD five)), .un, .un], β⟩ (finE β Q) := fun hd hi => by
    rw [isMend_no fun ws => hd _] at q
    refine ⟨false, hi, false, rfl, ?_⟩
    exact ⟨rfl, q⟩
  cases d
  case lst xs =>
    rw [DI.gd] at hgd
    have hx := gdA_mem hgd
    have hs := hsh xs rfl
    have hl := hs.len
    refine ⟨true, rfl, true, rfl, ?_⟩
    refine compF (fun d => some (.bl (isW d))) (by rw [List.length_nil, Nat.zero_add]; exact big (by omega)) (fun x hm k hk => ?_) ?_
    · have := hx x hm
      cases x <;> first | (simp [DI.gd] at this; done) | exact ⟨false, rfl, hk⟩ | skip
      rename_i s
      refine ⟨true, rfl, ?_⟩
      refine And.intro (Or.inl ⟨rfl, rfl⟩) ?_
      have hk : k (some (.bl (decide (s ∈ five)))) _ := hk
      rw [← inD_sD] at hk
      exact hk
    · rw [List.nil_append, all_bl]
      refine ⟨xs.map isW, rfl, ?_⟩
      refine ⟨_, rfl, ?_⟩
      refine ifB (fun h => ?_) fun h => ?_
      · have h : (!(xs.map isW).all id) = true := h
        rw [isMend_nw (by rw [List.all_map] at h; simpa using h)] at q
        exact ⟨rfl, q⟩
      · have h : (!(xs.map isW).all id) = false := h
        obtain ⟨ws, rfl⟩ := isW_wd (xs := xs) (by rw [List.all_map] at h; simpa using h)
        have hw := hs.wd
        rw [isMend_wd] at q
        refine compGf (fun w : Wd => .str w.s) putF ws (big (by omega)) (fun w hw k hk => ?_) ?_
        · refine And.intro (Or.inl ⟨rfl, rfl⟩) ?_
          cases w <;> exact hk
        show fn 3 β [.str (textOf ls)] _
        have t3 : fn 3 = kindsSp := t3
        rw [t3]
        refine ⟨ls, rfl, hls, ?_⟩
        refine Or.inl (And.intro (Or.inl ⟨rfl, rfl⟩) ?_)
        have hap := app_some (ws := ws) (ls := ls)
        have e1 : eqD (.int ((ws.filterMap putF).length : Int)) (.int ((kD (ls.map kind)).length : Int)) = decide (ws.countP takes = ls.length) := by
          rw [eqD_int, putF_len, kD_len, List.length_map]
          exact decide_eq_decide.mpr (by omega)
        refine ifB (fun h => ?_) fun h => ?_
        · have h : (!eqD (.int ((ws.filterMap putF).length : Int)) (.int ((kD (ls.map kind)).length : Int))) = true := h
          rw [e1, ← hap] at h
          cases e : app ws ls with
          | none => rw [e] at q; exact ⟨rfl, q⟩
          | some o => rw [e] at h; cases h
        · have h : (!eqD (.int ((ws.filterMap putF).length : Int)) (.int ((kD (ls.map kind)).length : Int))) = false := h
          rw [e1, ← hap] at h
          cases e : app ws ls with
          | none => rw [e] at h; cases h
          | some o =>
            rw [e] at q
            have hlo := app_lns e hls (by omega)
            show fn 16 β [.str (textOf ls), .lst (wD ws)] _
            have t16 : fn 16 = leftSp := t16
            rw [t16]
            refine ⟨ls, o, ws, rfl, hls, by omega, e, ?_⟩
            refine compG D.str (fun l => (kind l).d) o (big (by have := hlo.2; omega)) (fun l hm k hk => ?_) ?_
            · show fn 2 β [.str l] _
              have t2 : fn 2 = kindSp := t2
              rw [t2]
              have := (hlo.1 l hm).len
              refine ⟨l, rfl, by omega, ?_⟩
              cases e : kind l <;> (rw [e] at hk; exact hk)
            · have e2 : o.map (fun l => (kind l).d) = kD (o.map kind) := by unfold kD; rw [List.map_map]; rfl
              rw [e2]
              show fn 14 β [.lst (kD (o.map kind))] _
              have t14 : fn 14 = closeSp := t14
              rw [t14]
              exact ⟨_, rfl, by rw [List.length_map]; exact hlo.2, rfl, q⟩
  all_goals first
    | (simp [DI.gd] at hgd; done)
    | exact no (fun _ e => by cases e) rfl
def lismSp : DSp := fun β ds Q => ∃ (ls : List Str) (d : D), ds = [.lst (sD ls), d] ∧ Lns ls ∧ Thg d ∧ Q (.fz (.bl (isMend ls d)))
theorem lism_mono (β : Option Bag) (ds : List D) (Q Q' : R → Prop) (f : ∀ r, Q r → Q' r) (h : lismSp β ds Q) : lismSp β ds Q' := by
  obtain ⟨ls, d, h1, h2, h3, h4⟩ := h
  exact ⟨ls, d, h1, h2, h3, f _ h4⟩
theorem lism_ar (β : Option Bag) (ds : List D) (Q : R → Prop) (h : lismSp β ds Q) : ds.length = 2 := by
  obtain ⟨ls, d, rfl, _⟩ := h
  rfl
def notW (d : D) : Option D := if isW d = true then none else some d
theorem notW_nil (xs : List D) : (xs.filterMap notW).isEmpty = xs.all isW := by
  induction xs with
  | nil => rfl
  | cons x xs ih =>
    rw [List.filterMap_cons, List.all_cons]
    unfold notW
    cases e : isW x with
    | true => rw [if_pos rfl, Bool.true_and]; exact ih
    | false => rw [if_neg (by decide)]; rfl
theorem lism_ev (t31 : T.fn 31 = lkindsSp) (t32 : T.fn 32 = closeSp) (t33 : T.fn 33 = lmendSp) {ds : List D} {Q : R → Prop} (h : lismSp β ds Q) : evB T Tx.bd_l_is_mend (sta 5 ds β) (finE β Q) := by
  obtain ⟨ls, d, rfl, hls, ⟨hgd, hsh⟩, q⟩ := h
  show evB T Tx.bd_l_is_mend ⟨[.fz (.lst (sD ls)), .fz d, .un, .un, .un], β⟩ _
  refine And.intro (by (first | exact big' (by decide) | exact big (by decide) | exact big' (by simp; done) | exact big (by simp; done))) ?_
  have no : (∀ xs, d ≠ .lst xs) → isiB d "list" = some false → evB T (Tx.bd_l_is_mend.drop 1) ⟨[.fz (.lst (sD ls)), .fz d, .fz (.tup (sD five)), .un, .un], β⟩ (finE β Q) := fun hd hi => by
    rw [isMend_no fun ws => hd _] at q
    refine ⟨false, hi, false, rfl, ?_⟩
    exact ⟨rfl, q⟩
  cases d
  case lst xs =>
    rw [DI.gd] at hgd
    have hx := gdA_mem hgd
    have hs := hsh xs rfl
    have hl := hs.len
    refine ⟨true, rfl, true, rfl, ?_⟩
    refine compF notW (by rw [List.length_nil, Nat.zero_add]; exact big (by omega)) (fun x hm k hk => ?_) ?_
    · have := hx x hm
      cases x <;> first | (simp [DI.gd] at this; done) | exact ⟨false, rfl, false, rfl, hk⟩ | skip
      rename_i s
      refine ⟨true, rfl, true, rfl, ?_⟩
      refine And.intro (Or.inl ⟨rfl, rfl⟩) ?_
      show (if (!inD (.str s) (sD five)) = true then _ else _)
      have e : isW (.str s) = inD (.str s) (sD five) := by rw [inD_sD]; rfl
      unfold notW at hk
      rw [e] at hk
      cases h : inD (.str s) (sD five) with
      | true => rw [h] at hk; exact hk
      | false => rw [h] at hk; exact hk
    · rw [List.nil_append]
      refine And.intro (by (first | exact big' (by decide) | exact big (by decide) | exact big' (by simp; done) | exact big (by simp; done))) ?_
      refine Or.inl (And.intro (nil_eqOk _) ?_)
      refine ifB (fun h => ?_) fun h => ?_
      · have h : (!eqD (.lst (xs.filterMap notW)) (.lst [])) = true := h
        rw [eqD_nil, notW_nil] at h
        rw [isMend_nw (by simpa using h)] at q
        exact ⟨rfl, q⟩
      · have h : (!eqD (.lst (xs.filterMap notW)) (.lst [])) = false := h
        rw [eqD_nil, notW_nil] at h
        obtain ⟨ws, rfl⟩ := isW_wd (xs := xs) (by simpa using h)
        have hw := hs.wd
        rw [isMend_wd] at q
        show T.fn 33 β [.lst (sD ls), .lst (wD ws)] _
        rw [t33]
        refine ⟨ls, ws, rfl, hls, by omega, ?_⟩
        cases e : app ws ls with
        | none =>
          rw [e] at q
          refine And.intro rfl ?_
          exact ⟨rfl, q⟩
        | some o =>
          rw [e] at q
          have hlo := app_lns e hls (by omega)
          refine And.intro (okA_sD _) ?_
          show T.fn 31 β [.lst (sD o)] _
          rw [t31]
          refine ⟨o, rfl, hlo, ?_⟩
          show T.fn 32 β [.lst (kD (o.map kind))] _
          rw [t32]
          exact ⟨_, rfl, by rw [List.length_map]; exact hlo.2, rfl, q⟩
  all_goals first
    | (simp [DI.gd] at hgd; done)
    | exact no (fun _ e => by cases e) rfl
end
end K79

set_option Elab.async false
set_option linter.all false
set_option autoImplicit false
set_option maxRecDepth 100000
set_option maxHeartbeats 600000
/-! K79t: the signs of a shown value. -/
namespace K79
open PySem PySem.Spec PyProof.Rows L2 DI
def sgn (s : Str) : Prop := ∀ c ∈ TL.tl s, c < 0x110000
theorem sgn_ok {s : Str} (h : sgn s) : PyData.strOk s = true := by
  unfold PyData.strOk
  rw [Array.all_eq_true_iff_forall_mem]
  intro c hc
  exact decide_eq_true (h c (Array.mem_toList_iff.mpr hc))
theorem sgn_of {s : Str} (h : PyData.strOk s = true) : sgn s := fun c hc => by
  unfold PyData.strOk at h
  rw [Array.all_eq_true_iff_forall_mem] at h
  exact of_decide_eq_true (h c (Array.mem_toList_iff.mp hc))
theorem sgn_app {a b : Str} (ha : sgn a) (hb : sgn b) : sgn (a ++ b) := fun c hc => by
  rw [TL.tl_append, List.mem_append] at hc
  exact hc.elim (ha c) (hb c)
theorem sgn_string (s : String) : sgn (Str.ofString s) := fun c hc => by
  rw [Str.ofString_eq_toList] at hc
  have hc : c ∈ s.toList.map Char.toNat := hc
  obtain ⟨x, _, rfl⟩ := List.mem_map.mp hc
  have := x.valid
  have : x.val.toNat < 0x110000 := by
    rcases this with h | h
    · have : x.val.toNat < 0xd800 := h
      omega
    · exact h.2
  exact this
theorem char_lt (x : Char) : x.toNat < 0x110000 := by
  have := x.valid
  rcases this with h | h
  · have : x.val.toNat < 0xd800 := h
    show x.val.toNat < _
    omega
  · exact h.2
theorem reprChar_lt {q c : Nat} (hc : c < 0x110000) : ∀ x ∈ Builtin.Str.reprChar q c, x < 0x110000 := by
  have hx : ∀ w, ∀ x ∈ List.replicate (w - ((Nat.toDigits 16 c).map Char.toNat).length) 48 ++ (Nat.toDigits 16 c).map Char.toNat, x < 0x110000 := fun w x hx => by
    rcases List.mem_append.mp hx with h | h
    · rw [List.mem_replicate] at h; omega
    · obtain ⟨y, _, rfl⟩ := List.mem_map.mp h
      exact char_lt y
  intro x hm
  unfold Builtin.Str.reprChar at hm
  simp only at hm
  split at hm
  · simp only [List.mem_cons, List.not_mem_nil, or_false] at hm; omega
  split at hm
  · simp only [List.mem_cons, List.not_mem_nil, or_false] at hm; omega
  split at hm
  · simp only [List.mem_cons, List.not_mem_nil, or_false] at hm; omega
  split at hm
  · simp only [List.mem_cons, List.not_mem_nil, or_false] at hm; omega
  split at hm
  · simp only [List.mem_cons, List.not_mem_nil, or_false] at hm; omega
  split at hm
  · rcases List.mem_append.mp hm with h | h
    · simp only [List.mem_cons, List.not_mem_nil, or_false] at h; omega
    · exact hx _ x h
  split at hm
  · rcases List.mem_append.mp hm with h | h
    · simp only [List.mem_cons, List.not_mem_nil, or_false] at h; omega
    · exact hx _ x h
  · rcases List.mem_append.mp hm with h | h
    · simp only [List.mem_cons, List.not_mem_nil, or_false] at h; omega
    · exact hx _ x h
theorem fold_lt (q : Nat) : ∀ (l : List Nat) (acc : Array Nat), (∀ c ∈ l, c < 0x110000) → (∀ c ∈ acc.toList, c < 0x110000) → ∀ c ∈ (l.foldl (fun out c => out ++ (Builtin.Str.reprChar q c).toArray) acc).toList, c < 0x110000
  | [], acc, _, h => h
  | c :: r, acc, h1, h2 => by
    refine fold_lt q r _ (fun d hd => h1 d (List.mem_cons_of_mem _ hd)) fun d hd => ?_
    rw [Array.toList_append, List.mem_append] at hd
    rcases hd with hd | hd
    · exact h2 d hd
    · exact reprChar_lt (h1 c List.mem_cons_self) d hd
theorem quote_lt (x : Str) : reprQuote x < 0x110000 := by
  unfold reprQuote
  split <;> decide
theorem sgn_repr {x : Str} (h : sgn x) : sgn (reprText x) := fun c hc => by
  unfold reprText at hc
  have hc : c ∈ ((x.cps.foldl (fun out c => out ++ (Builtin.Str.reprChar (reprQuote x) c).toArray) #[reprQuote x]).push (reprQuote x)).toList := hc
  rw [Array.toList_push, List.mem_append] at hc
  rcases hc with hc | hc
  · rw [← Array.foldl_toList] at hc
    refine fold_lt _ _ _ h (fun d hd => ?_) c hc
    have hd : d ∈ [reprQuote x] := hd
    rw [List.mem_singleton] at hd
    rw [hd]
    exact quote_lt x
  · rw [List.mem_singleton] at hc
    rw [hc]
    exact quote_lt x
theorem sgn_from : ∀ (ts : List Str) (k : Nat) (acc : Str), sgn acc → (∀ t ∈ ts, sgn t) → sgn (textFrom k acc ts)
  | [], _, _, h, _ => h
  | t :: ts, k, acc, h, ht => by
    refine sgn_from ts (k + 1) _ (sgn_app (sgn_app h ?_) (ht t List.mem_cons_self)) fun u hu => ht u (List.mem_cons_of_mem _ hu)
    exact sgn_string _
theorem sgn_join (sep : Str) (hs : sgn sep) : ∀ ts : List Str, (∀ t ∈ ts, sgn t) → sgn (Str.join sep ts)
  | [], _ => by
    intro c hc
    cases hc
  | [t], h => h t List.mem_cons_self
  | t :: u :: r, h => sgn_app (sgn_app (h t List.mem_cons_self) hs) (sgn_join sep hs (u :: r) fun v hv => h v (List.mem_cons_of_mem _ hv))
theorem sgn_lit (s : String) : sgn (s : Str) := sgn_string s
mutual
theorem shown_sgn : ∀ {d : D}, gd 0 d = true → sgn d.py.shown
  | .non, _ => sgn_lit _
  | .bl b, _ => by
    rw [D.py, PyData.shown]
    cases b <;> exact sgn_lit _
  | .int i, _ => sgn_lit _
  | .str x, g => by
    rw [gd] at g
    rw [D.py, PyData.shown]
    exact sgn_repr (sgn_of g)
  | .lst xs, g => by
    rw [gd] at g
    rw [D.py, PyData.shown]
    exact sgn_app (sgn_from _ _ _ (sgn_lit _) (shownA_sgn g)) (sgn_lit _)
  | .tup xs, g => by
    rw [gd] at g
    rw [D.py, PyData.shown]
    unfold tupleText
    exact sgn_app (sgn_app (sgn_lit _) (sgn_join _ (sgn_lit _) _ (shownA_sgn g))) (sgn_lit _)
  | .dct kvs, g => by
    rw [gd, Bool.and_eq_true, Bool.and_eq_true] at g
    rw [D.py, PyData.shown]
    exact sgn_app (sgn_app (sgn_lit _) (sgn_join _ (sgn_lit _) _ (shownK_sgn g.1.1))) (sgn_lit _)
  | .dci a kvs, g => by
    rw [gd, Bool.and_eq_true, Bool.and_eq_true] at g
    rw [D.py, PyData.shown]
    exact sgn_app (sgn_app (sgn_lit _) (sgn_join _ (sgn_lit _) _ (shownK_sgn g.1.1))) (sgn_lit _)
  | .opq _, g => by simp [gd] at g
  | .scr _ _, g => by simp [gd] at g
  | .dcn _ _, g => by simp [gd] at g
theorem shownA_sgn : ∀ {xs : List D}, gdA 0 xs = true → ∀ t ∈ PyData.shownAll (pyA xs), sgn t
  | [], _ => fun t h => by cases h
  | x :: xs, g => by
    rw [gdA, Bool.and_eq_true] at g
    intro t ht
    rw [pyA, PyData.shownAll] at ht
    rcases List.mem_cons.mp ht with rfl | ht
    · exact shown_sgn g.1
    · exact shownA_sgn g.2 t ht
theorem shownK_sgn : ∀ {xs : List (D × D)}, gdK 0 xs = true → ∀ t ∈ PyData.shownKv (pyK xs), sgn t
  | [], _ => fun t h => by cases h
  | (k, v) :: xs, g => by
    rw [gdK, Bool.and_eq_true, Bool.and_eq_true, Bool.and_eq_true] at g
    intro t ht
    rw [pyK, PyData.shownKv] at ht
    rcases List.mem_cons.mp ht with rfl | ht
    · exact sgn_app (sgn_app (shown_sgn g.1.1.2) (sgn_lit _)) (shown_sgn g.1.2)
    · exact shownK_sgn g.2 t ht
end
end K79

set_option Elab.async false
set_option linter.all false
set_option autoImplicit false
set_option maxRecDepth 100000
set_option maxHeartbeats 600000
/-! K79u: mends judged; a mend with something otherwise; words by chance. -/
namespace K79
open PySem PySem.Spec PyProof.Rows L2 DI
theorem Gr.al {w m : Nat} {d : D} (h : Gr w m d) (hs : d.isSq = true) (hw : w ≤ 16777216) (hm : m ≤ 40) : (d.same = true ∨ d.pf = true) ∧ d.shw = true := by
  refine ⟨.inl ?_, h.val.shw (by decide) hw (by omega)⟩
  unfold D.same
  rw [hs, h.k, decide_eq_true (Nat.le_trans h.e hm)]
  rfl
theorem Gr.shown {w m : Nat} {d : D} (h : Gr w m d) : Gr (10 * w + 2) 0 (.str d.py.shown) := by
  obtain ⟨_, _, _, hl⟩ := gd_shw (b := 0) (by decide) h.g
  exact Gr.str (sgn_ok (shown_sgn h.g)) (Nat.le_trans hl h.w)
theorem gr_wd (w : Wd) : Gr 82 0 (.str w.s) := by cases w <;> exact Gr.str (n := 8) (by decide +kernel) (by decide +kernel)
theorem grA_const {m n : Nat} : ∀ {xs : List D}, (∀ x ∈ xs, Gr n m x) → GrA (xs.length * (n + 2)) m xs
  | [], _ => GrA.nil.mono (Nat.zero_le _) (Nat.le_refl _)
  | x :: xs, h => (GrA.cons (h x List.mem_cons_self) (grA_const fun y hy => h y (List.mem_cons_of_mem _ hy))).mono (by rw [List.length_cons, Nat.succ_mul]; omega) (Nat.le_refl _)
theorem odd_list {xs : List D} (hl : xs.length ≤ 50) (h : ∀ x ∈ xs, Gr 200 3 x) : OddV (.lst xs) ∧ OddV (.tup xs) := by
  have a := grA_const h
  have : xs.length * (200 + 2) ≤ 50 * 202 := Nat.mul_le_mul hl (Nat.le_refl _)
  exact ⟨⟨a.lst.mono (by omega) (by decide), fun ys e => by cases e; exact .inl hl⟩, ⟨a.tup.mono (by omega) (by decide), fun ys e => by cases e⟩⟩
theorem wd_gr (ws : List Wd) : ∀ x ∈ wD ws, Gr 200 3 x := fun x hx => by
  obtain ⟨w, _, rfl⟩ := List.mem_map.mp hx
  exact (gr_wd w).mono (by decide) (by decide)
theorem odd_wd {ws : List Wd} (h : ws.length ≤ 50) : OddV (.lst (wD ws)) := (odd_list (by rw [wD_len]; exact h) (wd_gr ws)).1
theorem okS_text {ls : List Str} (h : Lns ls) : sgn (textOf ls) := by
  rw [text_join]
  rw [TL.join_eq]
  refine sgn_join _ (sgn_lit _) _ fun t ht => ?_
  rcases List.mem_append.mp ht with ht | ht
  · exact sgn_of (okS_str (h.1 t ht).ok)
  · rw [List.mem_singleton.mp ht]
    exact sgn_lit _
theorem gr_text {ls : List Str} (h : Lns ls) : Gr 200002 0 (.str (textOf ls)) := Gr.str (n := 20000) (sgn_ok (okS_text h)) h.text
section
variable {T : Tb} {β : Option Bag}
def mrSp : DSp := fun β ds Q => ∃ (ls : List Str) (d : D), ds = [.str (textOf ls), .lst (sD ls), d] ∧ Lns ls ∧ OddV d ∧ Q (.fz (.bl true))
theorem mr_mono (β : Option Bag) (ds : List D) (Q Q' : R → Prop) (f : ∀ r, Q r → Q' r) (h : mrSp β ds Q) : mrSp β ds Q' := by
  obtain ⟨ls, d, h1, h2, h3, h4⟩ := h
  exact ⟨ls, d, h1, h2, h3, f _ h4⟩
theorem mr_ar (β : Option Bag) (ds : List D) (Q : R → Prop) (h : mrSp β ds Q) : ds.length = 3 := by
  obtain ⟨ls, d, rfl, _⟩ := h
  rfl
theorem mr_ev (t15 : T.fn 15 = closesSp) (t17 : T.fn 17 = ismSp) (t18 : T.fn 18 = costSp) (t19 : T.fn 19 = mendedSp) (t22 : T.fn 22 = alSp) (t26 : T.fn 26 = joinSp) (t33 : T.fn 33 = lmendSp) (t34 : T.fn 34 = lismSp) {ds : List D} {Q : R → Prop} (h : mrSp β ds Q) : evB T Tx.bd_l_mend_right (sta 8 ds β) (finE β Q) := by
  obtain ⟨ls, d, rfl, hls, hd, q⟩ := h
  have hshw : d.shw = true := hd.1.val.shw (by decide) (by decide) (by decide)
  show evB T Tx.bd_l_mend_right ⟨[.fz (.str (textOf ls)), .fz (.lst (sD ls)), .fz d, .un, .un, .un, .un, .un], β⟩ _
  refine And.intro hshw ?_
  show T.fn 34 β [.lst (sD ls), d] _
  rw [t34]
  refine ⟨ls, d, rfl, hls, hd.thg, ?_⟩
  show T.fn 17 β [.str (textOf ls), d] _
  rw [t17]
  refine ⟨ls, d, rfl, hls, hd.thg, ?_⟩
  show T.fn 17 β [.str (textOf ls), d] _
  rw [t17]
  refine ⟨ls, d, rfl, hls, hd.thg, ?_⟩
  refine And.intro hshw ?_
  refine And.intro (by (first | exact big' (by decide) | exact big (by decide) | exact big' (by simp; done) | exact big (by simp; done))) ?_
  refine And.intro (by (first | exact big' (by decide) | exact big (by decide) | exact big' (by simp; done) | exact big (by simp; done))) ?_
  show T.fn 22 β [.lst [.bl (isMend ls d), .bl (isMend ls d), .str d.py.shown], .lst [.bl (isMend ls d), .bl (isMend ls d), .str d.py.shown]] _
  rw [t22]
  have g1 : Gr 1600000 1 (.lst [.bl (isMend ls d), .bl (isMend ls d), .str d.py.shown]) := (GrA.cons Gr.bl (GrA.cons Gr.bl (GrA.cons hd.1.shown GrA.nil))).lst.mono (by decide) (by decide)
  obtain ⟨s1, s2⟩ := g1.al rfl (by decide) (by decide)
  refine ⟨_, rfl, s1, s2, ?_⟩
  refine ⟨true, rfl, ?_⟩
  refine ifF ?_
  refine ⟨_, rfl, ?_⟩
  refine ifB (fun h => ?_) fun h => ?_
  · exact ⟨rfl, q⟩
  have h : (!isMend ls d) = false := h
  have h : isMend ls d = true := by simpa using h
  classical
  unfold isMend at h
  obtain ⟨ws, out, rfl, ha, hacc⟩ := of_decide_eq_true h
  have hw := (hd.2 _ rfl).wd
  have hlo := app_lns ha hls (by omega)
  show T.fn 19 β [.str (textOf ls), .lst (wD ws)] _
  rw [t19]
  refine ⟨ls, out, ws, rfl, hls, by omega, ha, ?_⟩
  refine compGf (fun w : Wd => .str w.s) keepF ws (big (by omega)) (fun w hw k hk => ?_) ?_
  · refine Or.inl (And.intro (Or.inl ⟨rfl, rfl⟩) ?_)
    cases w <;> exact hk
  show T.fn 18 β [.lst (wD ws)] _
  rw [t18]
  refine ⟨ws, rfl, by omega, ?_⟩
  show T.fn 15 β [.str (textOf out)] _
  rw [t15]
  refine ⟨out, rfl, hlo, ?_⟩
  refine And.intro (by (first | exact big' (by decide) | exact big (by decide) | exact big' (by simp; done) | exact big (by simp; done))) ?_
  show T.fn 33 β [.lst (sD ls), .lst (wD ws)] _
  rw [t33]
  refine ⟨ls, ws, rfl, hls, by omega, ?_⟩
  rw [ha]
  show T.fn 26 β [.lst (sD out)] _
  rw [t26]
  refine ⟨out, rfl, hlo, ?_⟩
  refine And.intro (by (first | exact big' (by decide) | exact big (by decide) | exact big' (by simp; done) | exact big (by simp; done))) ?_
  show T.fn 22 β [.lst [.int (costW ws : Nat), .str (textOf out), .bl (acc (out.map kind) [.rw])], .lst [.int ((ws.filterMap keepF).length : Int), .str (textOf out), .bl true]] _
  rw [keepF_len, hacc, t22]
  have hc : costW ws ≤ 50 := by
    unfold costW
    exact Nat.le_trans (List.length_filter_le _ _) hw
  have g1 : Gr 1600000 1 (.lst [.int (costW ws : Nat), .str (textOf out), .bl true]) := (GrA.cons (Gr.int (by omega)) (GrA.cons (gr_text hlo) (GrA.cons Gr.bl GrA.nil))).lst.mono (by decide) (by decide)
  obtain ⟨s1, s2⟩ := g1.al rfl (by decide) (by decide)
  exact ⟨_, rfl, s1, s2, rfl, q⟩
/-! ### something otherwise -/
def othSp : DSp := fun β ds Q => ∃ (b : Bag) (ws : List Wd), β = some b ∧ ds = [.opq (.ref b.1), .lst (wD ws)] ∧ ws.length ≤ 45 ∧ ∀ d, OddV d → Q (.fz d) ∧ Q (.ow d)
theorem oth_mono (β : Option Bag) (ds : List D) (Q Q' : R → Prop) (f : ∀ r, Q r → Q' r) (h : othSp β ds Q) : othSp β ds Q' := by
  obtain ⟨b, ws, h1, h2, h3, h4⟩ := h
  exact ⟨b, ws, h1, h2, h3, fun d hd => ⟨f _ (h4 d hd).1, f _ (h4 d hd).2⟩⟩
theorem oth_ar (β : Option Bag) (ds : List D) (Q : R → Prop) (h : othSp β ds Q) : ds.length = 2 := by
  obtain ⟨b, ws, _, rfl, _⟩ := h
  rfl
theorem mod_at {n : Nat} (hn : 0 < n) {r : Int} (h0 : 0 ≤ r) : ∃ j : Nat, r % (n : Int) = (j : Int) ∧ j < n := by
  refine ⟨(r % (n : Int)).toNat, ?_, ?_⟩
  · rw [Int.toNat_of_nonneg (Int.emod_nonneg _ (by omega))]
  · have := Int.emod_lt_of_pos r (show (0 : Int) < n by omega)
    have := Int.emod_nonneg r (show (n : Int) ≠ 0 by omega)
    omega
theorem ixN_at {n j : Nat} (h : j < n) : ixN n (j : Int) = some j := by
  unfold ixN
  rw [if_pos (by omega), if_pos (by omega)]
  simp
theorem seq_at {n j : Nat} (h : j < n) : seqIndex? (j : Int) n = some j := by
  unfold seqIndex?
  simp
  try omega
theorem items_gr : ∀ d ∈ ([.str "end", .str "else", .str "always", .str "keep", .str "strike", .str "End", .non, .lst [.str "end"]] : List D), Gr 200 3 d := fun d hd => by
  simp only [List.mem_cons, List.not_mem_nil, or_false] at hd
  rcases hd with rfl | rfl | rfl | rfl | rfl | rfl | rfl | rfl
  all_goals exact ⟨by decide +kernel, by decide +kernel, by decide +kernel, by decide +kernel, by decide +kernel⟩
theorem items_gr2 (a : Addr) : ∀ d ∈ ([.str "end", .str "keep", .str "strike", .str "try", .int 0, .str "else", .dci a []] : List D), Gr 200 3 d := fun d hd => by
  simp only [List.mem_cons, List.not_mem_nil, or_false] at hd
  rcases hd with rfl | rfl | rfl | rfl | rfl | rfl | rfl
  all_goals first
    | exact ⟨by decide +kernel, by decide +kernel, by decide +kernel, by decide +kernel, by decide +kernel⟩
    | exact ⟨(grB_ok (dci_ok a).1).g, by simp [wt, wtK], by simp [dp, dpK], rfl, by simp [D.dep]⟩
theorem mem_put {P : D → Prop} {xs : List D} {y : D} {i : Nat} (h : ∀ x ∈ xs, P x) (hy : P y) : ∀ x ∈ xs.take i ++ [y] ++ xs.drop i, P x := fun x hx => by
  rw [List.append_assoc, List.mem_append] at hx
  rcases hx with hx | hx
  · exact h x (List.mem_of_mem_take hx)
  · rcases List.mem_cons.mp hx with rfl | hx
    · exact hy
    · exact h x (List.mem_of_mem_drop hx)
theorem mem_set {P : D → Prop} {xs : List D} {y : D} {i : Nat} (h : ∀ x ∈ xs, P x) (hy : P y) : ∀ x ∈ xs.set i y, P x := fun x hx => by
  rcases List.mem_or_eq_of_mem_set hx with hx | rfl
  · exact h x hx
  · exact hy
theorem oth_ev (t21 : T.fn 21 = takeSp) (t23 : T.fn 23 = oneSp) {ds : List D} {Q : R → Prop} (h : othSp β ds Q) : evB T Tx.bd_l_otherwise (sta 5 ds β) (finE β Q) := by
  obtain ⟨b, ws, rfl, rfl, h45, q⟩ := h
  have hgr := wd_gr ws
  have hlen := wD_len ws
  generalize wD ws = xs at *
  have fin : ∀ (ys : List D) (m2 m4 : M), ys.length ≤ 50 → (∀ y ∈ ys, Gr 200 3 y) → evB T [.ret (.var 3)] ⟨[.fz (.opq (.ref b.1)), .fz (.lst xs), m2, .ow (.lst ys), m4], some b⟩ (finE (some b) Q) := fun ys m2 m4 h1 h2 => ⟨rfl, (q _ (odd_list h1 h2).1).2⟩
  show evB T Tx.bd_l_otherwise ⟨[.fz (.opq (.ref b.1)), .fz (.lst xs), .un, .un, .un], some b⟩ _
  show T.fn 21 (some b) [.opq (.ref b.1), .int 7] _
  rw [t21]
  refine ⟨b, _, rfl, rfl, by omega, by omega, fun w w0 w1 => ?_⟩
  show T.fn 21 (some b) [.opq (.ref b.1), .int ((xs.length : Int) + 1)] _
  rw [t21]
  refine ⟨b, _, rfl, rfl, by omega, by omega, fun r r0 r1 => ?_⟩
  refine Or.inl (And.intro (Or.inl ⟨rfl, rfl⟩) ?_)
  refine ifI (fun _ => ?_) fun _ => ?_
  · exact ⟨rfl, (q _ (odd_list (by omega) hgr).2).1⟩
  refine ifL (fun _ => ?_) fun _ => ?_
  · refine And.intro ⟨_, rfl⟩ ?_
    repeat refine And.intro (by (first | exact big' (by decide) | exact big (by decide) | exact big' (by simp; done) | exact big (by simp; done))) ?_
    show T.fn 23 (some b) [.opq (.ref b.1), .lst _] _
    rw [t23]
    refine ⟨b, _, _, rfl, rfl, .inl rfl, by simp, by simp, fun d hd => ?_⟩
    refine ifS ?_
    refine And.intro (big (by omega)) (And.intro r0 (And.intro (by omega) ?_))
    refine fin _ _ _ ?_ (mem_put hgr (items_gr d hd))
    simp only [List.length_append, List.length_take, List.length_drop, List.length_cons, List.length_nil]
    omega
  refine And.intro (by (first | exact big' (by decide) | exact big (by decide) | exact big' (by simp; done) | exact big (by simp; done))) ?_
  refine Or.inl (And.intro (nil_eqOk _) ?_)
  cases xs with
  | nil =>
    refine And.intro (by (first | exact big' (by decide) | exact big (by decide) | exact big' (by simp; done) | exact big (by simp; done))) ?_
    refine Or.inl (And.intro (nil_eqOk _) ?_)
    exact fin [] _ _ (by decide) (fun _ h => by cases h)
  | cons x xs =>
    have hpos : 0 < (x :: xs).length := by simp
    obtain ⟨j, hj, hjl⟩ := mod_at hpos r0
    refine ifL (fun _ => ?_) fun _ => ?_
    · refine And.intro rfl (And.intro (by simp) (ifT fun a => ?_))
      refine And.intro (by (first | exact big' (by decide) | exact big (by decide) | exact big' (by simp; done) | exact big (by simp; done))) ?_
      show T.fn 23 (some b) [.opq (.ref b.1), .lst _] _
      rw [t23]
      refine ⟨b, _, _, rfl, rfl, .inl rfl, by simp, by simp, fun d hd => ?_⟩
      refine ifS ?_
      refine And.intro ⟨_, rfl⟩ ?_
      refine And.intro (by omega) ?_
      refine Exists.intro j (And.intro (by show ixN _ (r % ((x :: xs).length : Int)) = _; rw [hj]; exact ixN_at hjl) ?_)
      refine fin _ _ _ ?_ (mem_set hgr (items_gr2 a d hd))
      rw [List.length_set]
      omega
    · refine And.intro (by (first | exact big' (by decide) | exact big (by decide) | exact big' (by simp; done) | exact big (by simp; done))) ?_
      refine Or.inl (And.intro (nil_eqOk _) ?_)
      refine And.intro ⟨_, rfl⟩ ?_
      refine And.intro (by omega) ?_
      have hb := Int.emod_lt_of_pos r (show (0 : Int) < ((x :: xs).length : Int) by omega)
      have hb0 := Int.emod_nonneg r (show ((x :: xs).length : Int) ≠ 0 by omega)
      refine And.intro (by show -(2 ^ 63) ≤ r % ((x :: xs).length : Int); omega) (And.intro (by show r % ((x :: xs).length : Int) < 2 ^ 63; omega) ?_)
      refine Exists.intro j (Exists.intro _ (And.intro (by show seqIndex? (r % ((x :: xs).length : Int)) _ = _; rw [hj]; exact seq_at hjl) (And.intro (List.getElem?_eq_getElem hjl) ?_)))
      refine fin _ _ _ ?_ (fun y hy => hgr y (List.mem_of_mem_eraseIdx hy))
      have := List.length_eraseIdx_le (x :: xs) j
      omega
/-! ### words by chance -/
def chSp : DSp := fun β ds Q => ∃ (b : Bag) (ls : List Str), β = some b ∧ ds = [.opq (.ref b.1), .lst (sD ls)] ∧ ls.length ≤ 20 ∧ ∀ ws : List Wd, ws.length ≤ 45 → Q (.ow (.lst (wD ws)))
theorem ch_mono (β : Option Bag) (ds : List D) (Q Q' : R → Prop) (f : ∀ r, Q r → Q' r) (h : chSp β ds Q) : chSp β ds Q' := by
  obtain ⟨b, ls, h1, h2, h3, h4⟩ := h
  exact ⟨b, ls, h1, h2, h3, fun d hd => f _ (h4 d hd)⟩
theorem ch_ar (β : Option Bag) (ds : List D) (Q : R → Prop) (h : chSp β ds Q) : ds.length = 2 := by
  obtain ⟨b, ws, _, rfl, _⟩ := h
  rfl
theorem wD_snoc (ws : List Wd) (w : Wd) : wD (ws ++ [w]) = wD ws ++ [.str w.s] := wD_app ws [w]
theorem ch_ev (t21 : T.fn 21 = takeSp) (t23 : T.fn 23 = oneSp) {ds : List D} {Q : R → Prop} (h : chSp β ds Q) : evB T Tx.bd_l_chance (sta 4 ds β) (finE β Q) := by
  obtain ⟨b, ls, rfl, rfl, h20, q⟩ := h
  show evB T Tx.bd_l_chance ⟨[.fz (.opq (.ref b.1)), .fz (.lst (sD ls)), .un, .un], some b⟩ _
  refine And.intro (by (first | exact big' (by decide) | exact big (by decide) | exact big' (by simp; done) | exact big (by simp; done))) ?_
  refine forI (fun i ρ => ∃ (ws : List Wd) (m3 : M), ρ = ⟨[.fz (.opq (.ref b.1)), .fz (.lst (sD ls)), .ow (.lst (wD ws)), m3], some b⟩ ∧ ws.length ≤ 2 * i) ⟨[], .un, rfl, Nat.le_refl _⟩ ?_ ?_
  · rintro i d _ E2 hd ⟨ws, m3, rfl, hl⟩ hn - - -
    obtain ⟨hi, rfl⟩ := sD_get hd
    have two : ∀ ws : List Wd, ws.length ≤ 2 * i + 1 → evB T (match Tx.bd_l_chance with | _ :: .for_ _ _ [_, s] :: _ => [s] | _ => []) ⟨[.fz (.opq (.ref b.1)), .fz (.lst (sD ls)), .ow (.lst (wD ws)), .fz (.str ls[i])], some b⟩ E2 := fun ws hl => by
      refine And.intro ⟨_, rfl⟩ ?_
      show T.fn 21 (some b) [.opq (.ref b.1), .int 5] _
      rw [t21]
      refine ⟨b, _, rfl, rfl, by omega, by omega, fun r r0 r1 => ?_⟩
      refine Or.inl (And.intro (Or.inl ⟨rfl, rfl⟩) ?_)
      refine ifI (fun _ => ?_) fun _ => ?_
      · refine And.intro (by rw [wD_len]; exact big (by omega)) ?_
        exact hn _ ⟨ws ++ [.st], _, by rw [wD_snoc]; rfl, by rw [List.length_append]; simp; omega⟩
      · refine And.intro (by rw [wD_len]; exact big (by omega)) ?_
        exact hn _ ⟨ws ++ [.kp], _, by rw [wD_snoc]; rfl, by rw [List.length_append]; simp; omega⟩
    show T.fn 21 (some b) [.opq (.ref b.1), .int 6] _
    rw [t21]
    refine ⟨b, _, rfl, rfl, by omega, by omega, fun r r0 r1 => ?_⟩
    refine Or.inl (And.intro (Or.inl ⟨rfl, rfl⟩) ?_)
    refine ifI (fun _ => ?_) fun _ => ?_
    · refine And.intro ⟨_, rfl⟩ ?_
      refine And.intro (by (first | exact big' (by decide) | exact big (by decide) | exact big' (by simp; done) | exact big (by simp; done))) ?_
      show T.fn 23 (some b) [.opq (.ref b.1), .lst _] _
      rw [t23]
      refine ⟨b, _, _, rfl, rfl, .inl rfl, by simp, by simp, fun d hd => ?_⟩
      have hw : ∃ w : Wd, d = .str w.s := by
        simp only [List.mem_cons, List.not_mem_nil, or_false] at hd
        rcases hd with rfl | rfl | rfl
        · exact ⟨.en, rfl⟩
        · exact ⟨.el, rfl⟩
        · exact ⟨.al, rfl⟩
      obtain ⟨w, rfl⟩ := hw
      refine And.intro (by rw [wD_len]; exact big (by omega)) ?_
      have z := two (ws ++ [w]) (by rw [List.length_append]; simp; omega)
      rw [wD_snoc] at z
      exact z
    · exact two ws (by omega)
  · rintro _ ⟨ws, m3, rfl, hl⟩
    rw [sD_len] at hl
    refine And.intro (by (first | exact big' (by decide) | exact big (by decide) | exact big' (by simp; done) | exact big (by simp; done))) ?_
    show T.fn 21 (some b) [.opq (.ref b.1), .int 2] _
    rw [t21]
    refine ⟨b, _, rfl, rfl, by omega, by omega, fun r r0 r1 => ?_⟩
    obtain ⟨k, rfl⟩ := Int.eq_ofNat_of_zero_le r0
    refine And.intro (by omega) (And.intro (by omega) (And.intro (big' (by simp; omega)) ?_))
    refine And.intro (big' ?_) ?_
    · show (wD ws).length + (List.replicate (Int.toNat (k : Int)) [D.str "end"]).flatten.length ≤ 100000
      rw [Int.toNat_natCast, rep_end, wD_len, wD_len, List.length_replicate]
      omega
    · refine ⟨rfl, ?_⟩
      show Q (.ow (.lst (wD ws ++ (List.replicate (Int.toNat (k : Int)) [D.str "end"]).flatten)))
      rw [Int.toNat_natCast, rep_end, ← wD_app]
      exact q _ (by rw [List.length_append, List.length_replicate]; omega)
end
end K79

set_option Elab.async false
set_option linter.all false
set_option autoImplicit false
set_option maxRecDepth 100000
set_option maxHeartbeats 600000
/-! K79v: a line spoilt. -/
namespace K79
open PySem PySem.Spec PyProof.Rows L2 DI
theorem spl_sum : ∀ (l acc : List Nat), ((TL.spl [32] 0 acc l).map List.length).sum + (TL.spl [32] 0 acc l).length = acc.length + l.length + 1
  | [], acc => by
    rw [TL.spl_nil]
    simp
  | c :: r, acc => by
    by_cases hp : TL.pre [32] (c :: r) = true
    · rw [TL.spl_hit hp]
      have := spl_sum r []
      show ((acc :: TL.spl [32] 0 [] r).map List.length).sum + (acc :: TL.spl [32] 0 [] r).length = _
      simp only [List.map_cons, List.sum_cons, List.length_cons, List.length_nil] at this ⊢
      omega
    · rw [TL.spl_miss (by simpa using hp)]
      have := spl_sum r (acc ++ [c])
      rw [List.length_append] at this
      simp only [List.length_cons, List.length_nil] at this ⊢
      omega
def ln0 (ws : List Str) : Nat := (ws.map (·.length)).sum + ws.length
theorem wds_sum (s : Str) : ln0 (wds s) = s.length + 1 := by
  have h := wds_tl s
  have := spl_sum (TL.tl s) []
  rw [← h, List.map_map, List.length_map] at this
  unfold ln0
  rw [TL.len_tl s]
  have e : (List.length ∘ TL.tl : Str → Nat) = fun x : Str => x.length := funext fun x => (TL.len_tl x).symm
  rw [e] at this
  simp only [List.length_nil] at this
  omega
theorem ln0_cons (w : Str) (ws : List Str) : ln0 (w :: ws) = w.length + 1 + ln0 ws := by
  unfold ln0
  simp only [List.map_cons, List.sum_cons, List.length_cons]
  omega
theorem ln0_app (a b : List Str) : ln0 (a ++ b) = ln0 a + ln0 b := by
  unfold ln0
  simp only [List.map_append, List.sum_append, List.length_append]
  omega
theorem ln0_set : ∀ (ws : List Str) (i : Nat) (x : Str), ln0 (ws.set i x) ≤ ln0 ws + x.length
  | [], _, _ => Nat.le_add_right _ _
  | w :: ws, 0, x => by
    rw [List.set_cons_zero, ln0_cons, ln0_cons]
    omega
  | w :: ws, i + 1, x => by
    rw [List.set_cons_succ, ln0_cons, ln0_cons]
    have := ln0_set ws i x
    omega
theorem ln0_erase : ∀ (ws : List Str) (i : Nat), ln0 (ws.eraseIdx i) ≤ ln0 ws
  | [], _ => by simp
  | w :: ws, 0 => by
    rw [List.eraseIdx_cons_zero, ln0_cons]
    omega
  | w :: ws, i + 1 => by
    rw [List.eraseIdx_cons_succ, ln0_cons, ln0_cons]
    have := ln0_erase ws i
    omega
theorem ln0_put (ws : List Str) (i : Nat) (x : Str) : ln0 (ws.take i ++ [x] ++ ws.drop i) = ln0 ws + x.length + 1 := by
  have := ln0_app (ws.take i) (ws.drop i)
  rw [List.take_append_drop] at this
  rw [ln0_app, ln0_app, ln0_cons]
  have e : ln0 [] = 0 := rfl
  omega
theorem join_len : ∀ ws : List Str, (Str.join " " ws).length ≤ ln0 ws
  | [] => Nat.le_refl _
  | [w] => by
    show w.length ≤ _
    rw [ln0_cons]
    omega
  | w :: v :: ws => by
    have := join_len (v :: ws)
    show (w ++ " " ++ Str.join " " (v :: ws)).length ≤ _
    rw [len_app, len_app, ln0_cons]
    have e : ((" " : Str)).length = 1 := rfl
    omega
theorem join_ok : ∀ ws : List Str, (∀ w ∈ ws, okS w = true) → okS (Str.join " " ws) = true
  | [], _ => rfl
  | [w], h => h w List.mem_cons_self
  | w :: v :: ws, h => okS_app (okS_app (h w List.mem_cons_self) (by decide +kernel)) (join_ok (v :: ws) fun x hx => h x (List.mem_cons_of_mem _ hx))
theorem join_ln {ws : List Str} {n : Nat} (h : ln0 ws ≤ n) (hw : ∀ w ∈ ws, okS w = true) : Ln n (Txt.join " " ws) := by
  rw [TL.join_eq]
  exact ⟨Nat.le_trans (join_len ws) h, join_ok ws hw⟩
def menu : List Str := wds ("do of case end if else loop block leave again raise stop try catch" ++ " always mark call program procedure a zz")
theorem menu_ln : ∀ w ∈ menu, Ln 9 w := by
  have h : menu.all (fun w => decide (w.length ≤ 9) && okS w) = true := by decide +kernel
  intro w hw
  rw [List.all_eq_true] at h
  have := h w hw
  rw [Bool.and_eq_true, decide_eq_true_eq] at this
  exact ⟨this.1, this.2⟩
theorem menu_len : menu.length = 21 := by decide +kernel
theorem cut_mem {z : Str} {lo hi : Option Int} {c : Nat} (h : c ∈ TL.tl (cutS z lo hi)) : c ∈ TL.tl z := by
  have h : c ∈ (z.cps.toList.drop (HT.sIx z.length 0 lo)).take (HT.sIx z.length z.length hi - HT.sIx z.length 0 lo) := h
  exact List.mem_of_mem_drop (List.mem_of_mem_take h)
section
variable {T : Tb} {β : Option Bag}
def menuSp : DSp := fun β ds Q => ds = [] ∧ ∀ m : List Str, m ≠ [] → m.length ≤ 30 → (∀ w ∈ m, Ln 9 w) → Q (.ow (.lst (sD m)))
theorem menu_mono (β : Option Bag) (ds : List D) (Q Q' : R → Prop) (f : ∀ r, Q r → Q' r) (h : menuSp β ds Q) : menuSp β ds Q' := ⟨h.1, fun m h1 h2 h3 => f _ (h.2 m h1 h2 h3)⟩
theorem menu_ar (β : Option Bag) (ds : List D) (Q : R → Prop) (h : menuSp β ds Q) : ds.length = 0 := by
  rw [h.1]
  rfl
theorem menu_ev {ds : List D} {Q : R → Prop} (h : menuSp β ds Q) : evB T Tx.bd_l_words_menu (sta 1 ds β) (finE β Q) := by
  obtain ⟨rfl, q⟩ := h
  have q := q menu (wds_ne _) (by rw [menu_len]; decide) menu_ln
  show evB T Tx.bd_l_words_menu ⟨[.un], β⟩ _
  refine And.intro (big' (by decide +kernel)) ?_
  refine And.intro (by decide +kernel) (And.intro (big' (by decide +kernel)) ?_)
  exact ⟨rfl, q⟩
def spoiltSp : DSp := fun β ds Q => ∃ (b : Bag) (l : Str) (n : Nat), β = some b ∧ ds = [.opq (.ref b.1), .str l] ∧ Ln n l ∧ n ≤ 200 ∧ ∀ s, Ln (4 * n + 20) s → Q (.fz (.str s))
theorem spoilt_mono (β : Option Bag) (ds : List D) (Q Q' : R → Prop) (f : ∀ r, Q r → Q' r) (h : spoiltSp β ds Q) : spoiltSp β ds Q' := by
  obtain ⟨b, l, n, h1, h2, h3, h4, h5⟩ := h
  exact ⟨b, l, n, h1, h2, h3, h4, fun d hd => f _ (h5 d hd)⟩
theorem spoilt_ar (β : Option Bag) (ds : List D) (Q : R → Prop) (h : spoiltSp β ds Q) : ds.length = 2 := by
  obtain ⟨b, ws, _, _, rfl, _⟩ := h
  rfl
theorem wds_at {xs : List Str} {i : Nat} {w : Str} (h : xs[i]? = some w) : atI (sD xs) (i : Int) = some (.str w) := atN (by unfold sD; rw [List.getElem?_map, h]; rfl)
theorem sD_set (xs : List Str) (i : Nat) (w : Str) : (sD xs).set i (.str w) = sD (xs.set i w) := by unfold sD; rw [List.map_set]
theorem sD_erase (xs : List Str) (i : Nat) : (sD xs).eraseIdx i = sD (xs.eraseIdx i) := by unfold sD; rw [List.eraseIdx_eq_take_drop_succ, List.eraseIdx_eq_take_drop_succ, List.map_append, List.map_take, List.map_drop]
theorem sD_app (xs ys : List Str) : sD (xs ++ ys) = sD xs ++ sD ys := List.map_append ..
theorem sD_put (xs : List Str) (i : Nat) (w : Str) : (sD xs).take i ++ [.str w] ++ (sD xs).drop i = sD (xs.take i ++ [w] ++ xs.drop i) := by
  rw [sD_app, sD_app]
  unfold sD
  rw [List.map_take, List.map_drop]
  rfl
theorem sD_mem {xs : List Str} {d : D} (h : d ∈ sD xs) : ∃ w ∈ xs, d = .str w := by
  obtain ⟨w, hw, rfl⟩ := List.mem_map.mp h
  exact ⟨w, hw, rfl⟩
def ends7 : List Str := ["a", "A", "1", "=", "-", "_", "zzzzzzzz"]
theorem ends7_ln : ∀ w ∈ ends7, Ln 8 w := by
  intro w hw
  simp only [ends7, List.mem_cons, List.not_mem_nil, or_false] at hw
  rcases hw with rfl | rfl | rfl | rfl | rfl | rfl | rfl <;> exact ⟨by decide +kernel, by decide +kernel⟩
theorem mem_put_s {P : Str → Prop} {xs : List Str} {y : Str} {i : Nat} (h : ∀ x ∈ xs, P x) (hy : P y) : ∀ x ∈ xs.take i ++ [y] ++ xs.drop i, P x := fun x hx => by
  rw [List.append_assoc, List.mem_append] at hx
  rcases hx with hx | hx
  · exact h x (List.mem_of_mem_take hx)
  · rcases List.mem_cons.mp hx with rfl | hx
    · exact hy
    · exact h x (List.mem_of_mem_drop hx)
theorem spoilt_ev (t21 : T.fn 21 = takeSp) (t23 : T.fn 23 = oneSp) (t27 : T.fn 27 = menuSp) {ds : List D} {Q : R → Prop} (h : spoiltSp β ds Q) : evB T Tx.bd_l_line_spoilt (sta 5 ds β) (finE β Q) := by
  obtain ⟨b, l, n, rfl, rfl, hl, hn, q⟩ := h
  have hll := hl.len
  have hsum := wds_sum l
  have hne := wds_ne l
  have hmem : ∀ w ∈ wds l, okS w = true ∧ w.length ≤ n := fun w hw => ⟨(wds_mem hw).1 hl.ok, Nat.le_trans (wds_mem hw).2 hll⟩
  have hwl := wds_len l
  have fin : ∀ (ws : List Str) (m2 m4 : M), ln0 ws ≤ 4 * n + 20 → (∀ w ∈ ws, okS w = true) → evB T [.ret (.join (.con (.str " ")) (.var 3))] ⟨[.fz (.opq (.ref b.1)), .fz (.str l), m2, .ow (.lst (sD ws)), m4], some b⟩ (finE (some b) Q) := fun ws m2 m4 h1 h2 => by
    refine ⟨ws, rfl, ?_, rfl, q _ (join_ln h1 h2)⟩
    have e : ((" " : Str)).length = 1 := rfl
    rw [e, Nat.mul_one]
    unfold ln0 at h1
    omega
  show evB T Tx.bd_l_line_spoilt ⟨[.fz (.opq (.ref b.1)), .fz (.str l), .un, .un, .un], some b⟩ _
  refine And.intro (by decide +kernel) (And.intro (big' (by omega)) ?_)
  show T.fn 21 (some b) [.opq (.ref b.1), .int 9] _
  rw [t21]
  refine ⟨b, _, rfl, rfl, by omega, by omega, fun w w0 w1 => ?_⟩
  show evB T (Tx.bd_l_line_spoilt.drop 1) ⟨[.fz (.opq (.ref b.1)), .fz (.str l), .un, .ow (.lst (sD (wds l))), .fz (.int w)], some b⟩ _
  generalize hws : wds l = ws at *
  have hpos : 0 < ws.length := List.length_pos_iff.mpr hne
  show T.fn 21 (some b) [.opq (.ref b.1), .int ((sD ws).length : Int)] _
  rw [t21, sD_len]
  refine ⟨b, _, rfl, rfl, by omega, by omega, fun r r0 r1 => ?_⟩
  obtain ⟨i, rfl⟩ := Int.eq_ofNat_of_zero_le r0
  have hi : i < ws.length := by omega
  obtain ⟨x, hx⟩ : ∃ x, ws[i]? = some x := ⟨_, List.getElem?_eq_getElem hi⟩
  have hxm := hmem x (List.mem_of_getElem? hx)
  show evB T (Tx.bd_l_line_spoilt.drop 2) ⟨[.fz (.opq (.ref b.1)), .fz (.str l), .fz (.int (i : Int)), .ow (.lst (sD ws)), .fz (.int w)], some b⟩ _
  have put : ∀ y : Str, okS y = true → y.length ≤ 3 * n + 9 → evB T [.ret (.join (.con (.str " ")) (.var 3))] ⟨[.fz (.opq (.ref b.1)), .fz (.str l), .fz (.int (i : Int)), .ow (.lst ((sD ws).set i (.str y))), .fz (.int w)], some b⟩ (finE (some b) Q) := fun y h1 h2 => by
    rw [sD_set]
    refine fin _ _ _ ?_ fun v hv => ?_
    · have := ln0_set ws i y
      omega
    · rcases List.mem_or_eq_of_mem_set hv with hv | rfl
      · exact (hmem v hv).1
      · exact h1
  show (if decide (w < 3) = true then _ else _)
  refine ifL (fun _ => ?_) fun _ => ?_
  · show (if decide (w < 2) = true then _ else _)
    refine ifL (fun _ => ?_) fun _ => ?_
    · show T.fn 27 (some b) [] _
      rw [t27]
      refine ⟨rfl, fun m hm1 hm2 hm3 => ?_⟩
      show T.fn 23 (some b) [.opq (.ref b.1), .lst (sD m)] _
      rw [t23]
      refine ⟨b, _, _, rfl, rfl, .inl rfl, fun e => hm1 (List.map_eq_nil_iff.mp e), by rw [sD_len]; omega, fun d hd => ?_⟩
      · obtain ⟨y, hy, rfl⟩ := sD_mem hd
        have hyl := hm3 y hy
        refine And.intro ⟨_, rfl⟩ ?_
        refine Exists.intro i (And.intro (ixN_at (by rw [sD_len]; exact hi)) ?_)
        exact put y hyl.ok (by have := hyl.len; omega)
    · refine Exists.intro _ (And.intro (wds_at hx) ?_)
      refine And.intro (by have := hxm.2; omega) ?_
      refine And.intro ⟨_, rfl⟩ ?_
      refine Exists.intro i (And.intro (ixN_at (by rw [sD_len]; exact hi)) ?_)
      have := len_upper x
      exact put _ (okS_upper hxm.1) (by have := hxm.2; omega)
  refine Or.inl (And.intro (Or.inl ⟨rfl, rfl⟩) ?_)
  refine ifI (fun _ => ?_) fun _ => ?_
  · refine And.intro ⟨_, rfl⟩ ?_
    show T.fn 27 (some b) [] _
    rw [t27]
    refine ⟨rfl, fun m hm1 hm2 hm3 => ?_⟩
    show T.fn 23 (some b) [.opq (.ref b.1), .lst (sD m)] _
    rw [t23]
    refine ⟨b, _, _, rfl, rfl, .inl rfl, fun e => hm1 (List.map_eq_nil_iff.mp e), by rw [sD_len]; omega, fun d hd => ?_⟩
    · obtain ⟨y, hy, rfl⟩ := sD_mem hd
      have hyl := hm3 y hy
      refine And.intro (by rw [sD_len]; exact big (by omega)) (And.intro (by omega) (And.intro (by omega) ?_))
      show evB T [.ret (.join (.con (.str " ")) (.var 3))] ⟨[.fz (.opq (.ref b.1)), .fz (.str l), .fz (.int (i : Int)), .ow (.lst ((sD ws).take (Int.toNat (i : Int)) ++ [.str y] ++ (sD ws).drop (Int.toNat (i : Int)))), .fz (.int w)], some b⟩ (finE (some b) Q)
      rw [Int.toNat_natCast, sD_put]
      refine fin _ _ _ ?_ (mem_put_s (fun v hv => (hmem v hv).1) hyl.ok)
      rw [ln0_put]
      have := hyl.len
      omega
  refine Or.inl (And.intro (Or.inl ⟨rfl, rfl⟩) ?_)
  refine ifI (fun _ => ?_) fun _ => ?_
  · refine And.intro ⟨_, rfl⟩ ?_
    refine And.intro (by omega) (And.intro (by omega) ?_)
    refine Exists.intro i (Exists.intro (.str x) (And.intro (seq_at (by rw [sD_len]; exact hi)) (And.intro (by unfold sD; rw [List.getElem?_map, hx]; rfl) ?_)))
    show evB T [.ret (.join (.con (.str " ")) (.var 3))] ⟨[.fz (.opq (.ref b.1)), .fz (.str l), .fz (.int (i : Int)), .ow (.lst ((sD ws).eraseIdx i)), .fz (.int w)], some b⟩ (finE (some b) Q)
    rw [sD_erase]
    refine fin _ _ _ ?_ fun v hv => (hmem v (List.mem_of_mem_eraseIdx hv)).1
    have := ln0_erase ws i
    omega
  refine Or.inl (And.intro (Or.inl ⟨rfl, rfl⟩) ?_)
  refine ifI (fun _ => ?_) fun _ => ?_
  · refine And.intro ⟨_, rfl⟩ ?_
    refine And.intro (by rw [sD_len]; exact big (by omega)) ?_
    have z := fin (ws ++ [("" : Str)]) (.fz (.int (i : Int))) (.fz (.int w)) ?_ ?_
    · rw [sD_snoc] at z
      exact z
    · rw [ln0_app, ln0_cons]
      have e : ln0 [] = 0 := rfl
      have e2 : (("" : Str)).length = 0 := rfl
      omega
    · intro v hv
      rcases List.mem_append.mp hv with hv | hv
      · exact (hmem v hv).1
      · rw [List.mem_singleton.mp hv]
        decide +kernel
  refine Or.inl (And.intro (Or.inl ⟨rfl, rfl⟩) ?_)
  refine ifI (fun _ => ?_) fun _ => ?_
  · refine Exists.intro _ (And.intro (wds_at hx) ?_)
    refine And.intro (by (first | exact big' (by decide) | exact big (by decide) | exact big' (by simp; done) | exact big (by simp; done))) ?_
    show T.fn 23 (some b) [.opq (.ref b.1), .lst (sD ends7)] _
    rw [t23]
    refine ⟨b, _, _, rfl, rfl, .inl rfl, by simp [sD, ends7], by simp [sD, ends7], fun d hd => ?_⟩
    obtain ⟨y, hy, rfl⟩ := sD_mem hd
    have hyl := ends7_ln y hy
    have hxl := hxm.2
    have hyy := hyl.len
    refine And.intro (big' (by omega)) ?_
    refine And.intro ⟨_, rfl⟩ ?_
    refine Exists.intro i (And.intro (ixN_at (by rw [sD_len]; exact hi)) ?_)
    exact put (x ++ y) (okS_app hxm.1 hyl.ok) (by rw [len_app]; omega)
  refine Or.inl (And.intro (Or.inl ⟨rfl, rfl⟩) ?_)
  refine ifI (fun _ => ?_) fun _ => ?_
  · refine And.intro (big' (by omega)) ?_
    show T.fn 21 (some b) [.opq (.ref b.1), .int ((l.length : Int) + 1)] _
    rw [t21]
    refine ⟨b, _, rfl, rfl, by omega, by omega, fun r r0 r1 => ?_⟩
    refine And.intro (big' (by omega)) ?_
    refine ⟨rfl, q _ ?_⟩
    obtain ⟨k, rfl⟩ := Int.eq_ofNat_of_zero_le r0
    have e := cutS_length l none (some (k : Int))
    exact ⟨by omega, by
      have := hl.ok
      rw [okS_iff] at this ⊢
      intro c hc
      exact this c (cut_mem hc)⟩
  · have := fin ws (.fz (.int (i : Int))) (.fz (.int w)) (by omega) fun v hv => (hmem v hv).1
    exact this
end
end K79

set_option Elab.async false
set_option linter.all false
set_option autoImplicit false
set_option maxRecDepth 100000
set_option maxHeartbeats 1000000
/-! K79w: drawn lines. -/
namespace K79
open PySem PySem.Spec PyProof.Rows L2 DI
def LsG (ls : List Str) : Prop := ∀ l ∈ ls, Ln 12 l
theorem LsG.nil : LsG [] := fun _ h => by cases h
theorem LsG.app {a b : List Str} (ha : LsG a) (hb : LsG b) : LsG (a ++ b) := fun l h => (List.mem_append.mp h).elim (ha l) (hb l)
theorem LsG.one {x : Str} (h : Ln 12 x) : LsG [x] := fun l hl => by rw [List.mem_singleton.mp hl]; exact h
def lnB (n : Nat) (l : Str) : Bool := decide (l.length ≤ n) && okS l
theorem lnB_ok {n : Nat} {l : Str} (h : lnB n l = true) : Ln n l := by
  unfold lnB at h
  rw [Bool.and_eq_true, decide_eq_true_eq] at h
  exact ⟨h.1, h.2⟩
theorem lsB_ok {ls : List Str} (h : ls.all (lnB 12) = true) : LsG ls := fun l hl => lnB_ok (List.all_eq_true.mp h l hl)
def sgl : List Str := ["mark a", "mark of", "do s", "do of", "raise end", "stop w", "leave l", "again l", "call a"]
theorem sgl_ok : LsG sgl := lsB_ok (by decide +kernel)
def bnL : Nat → Nat
  | 0 => 10
  | d + 1 => 2 * bnL d + 20
section
variable {T : Tb} {β : Option Bag}
def drawnSp (n : Nat) : DSp := fun β ds Q => ∃ (b : Bag) (r d : Nat), β = some b ∧ ds = [.opq (.ref b.1), .int (r : Int), .int (d : Int)] ∧ r ≤ 10 ∧ d < n ∧ n ≤ 4 ∧ ∀ ls : List Str, LsG ls → ls.length ≤ bnL d → Q (.ow (.lst (sD ls)))
theorem drawn_mono (n : Nat) (β : Option Bag) (ds : List D) (Q Q' : R → Prop) (f : ∀ r, Q r → Q' r) (h : drawnSp n β ds Q) : drawnSp n β ds Q' := by
  obtain ⟨b, r, d, h1, h2, h3, h4, h5, h6⟩ := h
  exact ⟨b, r, d, h1, h2, h3, h4, h5, fun ls a c => f _ (h6 ls a c)⟩
theorem drawn_ar (n : Nat) (β : Option Bag) (ds : List D) (Q : R → Prop) (h : drawnSp n β ds Q) : ds.length = 3 := by
  obtain ⟨b, r, d, _, rfl, _⟩ := h
  rfl
theorem drawn_zero (β : Option Bag) (ds : List D) (Q : R → Prop) : ¬ drawnSp 0 β ds Q := fun h => by
  obtain ⟨b, r, d, _, _, _, h, _⟩ := h
  omega
theorem bnL_le : ∀ d, d ≤ 4 → bnL d ≤ 1000 := by decide
theorem bnL_ge : ∀ d, 10 ≤ bnL d
  | 0 => Nat.le_refl _
  | d + 1 => by
    have := bnL_ge d
    show 10 ≤ 2 * bnL d + 20
    omega
def wbody : List CS := match Tx.bd_l_drawn_lines with
  | [_, _, .while_ _ b, _] => b
  | _ => []
abbrev dst (b : Bag) (r d : Nat) (fs : List D) (m6 m7 m8 m9 : M) : Sta := ⟨[.fz (.opq (.ref b.1)), .fz (.int (r : Int)), .fz (.int (d : Int)), .ow (.lst (sD sgl)), .ow (.lst fs), .fz (.int ((r / 2 : Nat) : Int)), m6, m7, m8, m9], some b⟩
theorem one_str (t23 : T.fn 23 = oneSp) {b : Bag} {l : List Str} {Q : R → Prop} (hne : l ≠ []) (hl : l.length < 2000) (q : ∀ x ∈ l, Q (.fz (.str x))) : T.fn 23 (some b) [.opq (.ref b.1), .lst (sD l)] Q := by
  rw [t23]
  refine ⟨b, _, _, rfl, rfl, .inl rfl, fun e => hne (List.map_eq_nil_iff.mp e), by rw [sD_len]; exact hl, fun d hd => ?_⟩
  obtain ⟨x, hx, rfl⟩ := sD_mem hd
  exact q x hx
theorem one_lst (t23 : T.fn 23 = oneSp) {b : Bag} {l : List (List Str)} {Q : R → Prop} (hne : l ≠ []) (hl : l.length < 2000) (q : ∀ x ∈ l, Q (.fz (.lst (sD x)))) : T.fn 23 (some b) [.opq (.ref b.1), .lst (l.map fun x => .lst (sD x))] Q := by
  rw [t23]
  refine ⟨b, _, _, rfl, rfl, .inl rfl, fun e => hne (List.map_eq_nil_iff.mp e), by rw [List.length_map]; exact hl, fun d hd => ?_⟩
  obtain ⟨x, hx, rfl⟩ := List.mem_map.mp hd
  exact q x hx
theorem take_int (t21 : T.fn 21 = takeSp) {b : Bag} {n : Int} {Q : R → Prop} (h0 : 0 < n) (h1 : n < 1073741824) (q : ∀ r : Nat, (r : Int) < n → Q (.fz (.int (r : Int)))) : T.fn 21 (some b) [.opq (.ref b.1), .int n] Q := by
  rw [t21]
  refine ⟨b, _, rfl, rfl, by omega, by omega, fun r r0 r1 => ?_⟩
  obtain ⟨k, rfl⟩ := Int.eq_ofNat_of_zero_le r0
  exact q k r1
theorem drawn_rec {n : Nat} (t29 : T.fn 29 = drawnSp n) {b : Bag} {r d : Nat} {ri i : Int} {Q : R → Prop} (hri : ri = (r : Int)) (hr : r ≤ 10) (hn : n ≤ 4) (hd : d < n) (hi : i = (d : Int)) (q : ∀ ls : List Str, LsG ls → ls.length ≤ bnL d → Q (.ow (.lst (sD ls)))) : T.fn 29 (some b) [.opq (.ref b.1), .int ri, .int i] Q := by
  rw [t29, hi, hri]
  exact ⟨b, r, d, rfl, rfl, hr, hd, hn, q⟩
/-- the last statement of a turn -/
theorem dfin {b : Bag} {r d : Nat} {m6 m7 m8 m9 : M} {E : En} (ys : List Str) (hl : ys.length ≤ 5000) (q : E.nx (dst b r d (sD (ys ++ [("end" : Str)])) m6 m7 m8 m9)) : evB T [.expr (.mut .append 4 (.cons (.con (.str "end")) .nil))] (dst b r d (sD ys) m6 m7 m8 m9) E := by
  refine And.intro ⟨_, rfl⟩ ?_
  refine And.intro (by rw [sD_len]; exact big (by omega)) ?_
  rw [sD_snoc] at q
  exact q
theorem dturn {n : Nat} (t21 : T.fn 21 = takeSp) (t23 : T.fn 23 = oneSp) (t29 : T.fn 29 = drawnSp n) {b : Bag} {r d : Nat} {fs : List Str} {m6 m7 m8 m9 : M} {E : En} (hn4 : n ≤ 4) (hr : r ≤ 10) (hd : d < n + 1) (hfs : fs.length < r) (hg : LsG fs)
    (q : ∀ ys : List Str, fs.length < ys.length → LsG ys → ys.length ≤ bnL d → ∀ m6 m7 m8 m9 : M, E.nx (dst b r d (sD ys) m6 m7 m8 m9) ∧ E.ct (dst b r d (sD ys) m6 m7 m8 m9)) :
    evB T wbody (dst b r d (sD fs) m6 m7 m8 m9) E := by
  have hb10 := bnL_ge d
  have one : ∀ w : Nat, w < 4 → evB T (wbody.drop 1) (dst b r d (sD fs) (.fz (.int (w : Int))) m7 m8 m9) E := fun w hw => by
    show (if decide ((w : Int) < 4) = true then _ else _)
    refine ifL (fun _ => ?_) fun h => absurd (by omega) h
    refine And.intro ⟨_, rfl⟩ ?_
    refine one_str (l := sgl) t23 (by simp [sgl]) (by decide) fun x hx => ?_
    refine And.intro (by rw [sD_len]; exact big (by omega)) ?_
    have z := (q (fs ++ [x]) (by simp) (hg.app (.one (sgl_ok x hx))) (by simp; omega) (.fz (.int (w : Int))) m7 m8 m9).2
    rw [sD_snoc] at z
    exact z
  cases d with
  | zero =>
    exact one 0 (by decide)
  | succ d =>
    show (if decide ((0 : Int) < ((d + 1 : Nat) : Int)) = true then _ else _)
    refine ifL (fun _ => ?_) fun h => absurd (by omega) h
    show T.fn 21 (some b) [.opq (.ref b.1), .int 9] _
    refine take_int t21 (by decide) (by decide) fun w hw => ?_
    by_cases hw4 : w < 4
    · exact one w hw4
    have hd' : d < n := by omega
    have hbn := bnL_le d (by omega)
    have e2 : bnL (d + 1) = 2 * bnL d + 20 := rfl
    have last : ∀ (ys : List Str) (m6 m7 m8 m9 : M), fs.length ≤ ys.length → LsG ys → ys.length < 2 * bnL d + 20 → evB T [.expr (.mut .append 4 (.cons (.con (.str "end")) .nil))] (dst b r (d + 1) (sD ys) m6 m7 m8 m9) E := fun ys m6 m7 m8 m9 h1 h2 h3 =>
      dfin ys (by omega) (q (ys ++ [("end" : Str)]) (by simp; omega) (h2.app (lsB_ok (by decide +kernel))) (by rw [List.length_append]; simp; omega) m6 m7 m8 m9).1
    show evB T (wbody.drop 1) (dst b r (d + 1) (sD fs) (.fz (.int (w : Int))) m7 m8 m9) E
    show (if decide ((w : Int) < 4) = true then _ else _)
    refine ifL (fun h => absurd h (by omega)) fun _ => ?_
    show T.fn 29 (some b) [.opq (.ref b.1), .int ((r / 2 : Nat) : Int), .int (((d + 1 : Nat) : Int) - 1)] _
    refine drawn_rec t29 rfl (by omega) hn4 hd' (by omega) fun inner i1 i2 => ?_
    show evB T (wbody.drop 3) (dst b r (d + 1) (sD fs) (.fz (.int (w : Int))) (.ow (.lst (sD inner))) m8 m9) E
    show (if decide ((w : Int) < 6) = true then _ else _)
    refine ifL (fun _ => ?_) fun _ => ?_
    · refine And.intro (by (first | exact big' (by decide) | exact big (by decide) | exact big' (by simp; done) | exact big (by simp; done))) ?_
      show T.fn 23 (some b) [.opq (.ref b.1), .lst (sD ["loop l", "block l", "loop end"])] _
      refine one_str t23 (by simp) (by decide) fun x hx => ?_
      refine And.intro (by (first | exact big' (by decide) | exact big (by decide) | exact big' (by simp; done) | exact big (by simp; done))) ?_
      refine And.intro (big' (by ((simp only [List.length_append, List.length_cons, List.length_nil, sD_len]; omega)))) ?_
      refine And.intro (big' (by ((simp only [List.length_append, List.length_cons, List.length_nil, sD_len]; omega)))) ?_
      show evB T [.expr (.mut .append 4 (.cons (.con (.str "end")) .nil))] (dst b r (d + 1) (sD fs ++ [D.str x] ++ sD inner) (.fz (.int (w : Int))) (.ow (.lst (sD inner))) m8 m9) E
      have e : sD fs ++ [D.str x] ++ sD inner = sD (fs ++ [x] ++ inner) := by rw [sD_app, sD_app]; rfl
      rw [e]
      exact last _ _ _ _ _ (by simp only [List.length_append]; omega) ((hg.app (lsB_ok (ls := ["loop l", "block l", "loop end"]) (by decide +kernel) |> fun h => .one (h x hx))).app i1) (by simp; omega)
    refine Or.inl (And.intro (Or.inl ⟨rfl, rfl⟩) ?_)
    refine ifI (fun _ => ?_) fun _ => ?_
    · refine And.intro (by (first | exact big' (by decide) | exact big (by decide) | exact big' (by simp; done) | exact big (by simp; done))) ?_
      show T.fn 23 (some b) [.opq (.ref b.1), .lst (sD ["if p", "if end"])] _
      refine one_str t23 (by simp) (by decide) fun x hx => ?_
      refine And.intro (by (first | exact big' (by decide) | exact big (by decide) | exact big' (by simp; done) | exact big (by simp; done))) ?_
      refine And.intro (big' (by ((simp only [List.length_append, List.length_cons, List.length_nil, sD_len]; omega)))) ?_
      refine And.intro (big' (by ((simp only [List.length_append, List.length_cons, List.length_nil, sD_len]; omega)))) ?_
      refine And.intro (by (first | exact big' (by decide) | exact big (by decide) | exact big' (by simp; done) | exact big (by simp; done))) ?_
      refine And.intro (big' (by ((simp only [List.length_append, List.length_cons, List.length_nil, sD_len]; omega)))) ?_
      have e : sD fs ++ [D.str x] ++ sD inner ++ [D.str "else"] = sD (fs ++ [x] ++ inner ++ [("else" : Str)]) := by rw [sD_app, sD_app, sD_app]; rfl
      show T.fn 29 (some b) [.opq (.ref b.1), .int ((r / 2 : Nat) : Int), .int (((d + 1 : Nat) : Int) - 1)] _
      refine drawn_rec t29 rfl (by omega) hn4 hd' (by omega) fun inner2 j1 j2 => ?_
      refine And.intro (big' (by show (sD fs ++ [D.str x] ++ sD inner ++ [D.str "else"]).length + (sD inner2).length ≤ _; ((simp only [List.length_append, List.length_cons, List.length_nil, sD_len]; omega)))) ?_
      show evB T [.expr (.mut .append 4 (.cons (.con (.str "end")) .nil))] (dst b r (d + 1) (sD fs ++ [D.str x] ++ sD inner ++ [D.str "else"] ++ sD inner2) (.fz (.int (w : Int))) (.ow (.lst (sD inner))) m8 m9) E
      rw [e, ← sD_app]
      exact last _ _ _ _ _ (by simp only [List.length_append]; omega) ((((hg.app (lsB_ok (ls := ["if p", "if end"]) (by decide +kernel) |> fun h => .one (h x hx))).app i1).app (lsB_ok (by decide +kernel))).app j1) (by simp; omega)
    refine Or.inl (And.intro (Or.inl ⟨rfl, rfl⟩) ?_)
    refine ifI (fun _ => ?_) fun _ => ?_
    · repeat refine And.intro (by (first | exact big' (by decide) | exact big (by decide) | exact big' (by simp; done) | exact big (by simp; done))) ?_
      show T.fn 23 (some b) [.opq (.ref b.1), .lst (([["case bad"], ["case ok"], ["case bad", "mark a", "case ok"], ["case end"]] : List (List Str)).map fun x => .lst (sD x))] _
      refine one_lst t23 (by simp) (by decide) fun cs hcs => ?_
      have hc : LsG cs ∧ cs.length ≤ 3 := by
        simp only [List.mem_cons, List.not_mem_nil, or_false] at hcs
        rcases hcs with rfl | rfl | rfl | rfl <;> exact ⟨lsB_ok (by decide +kernel), by decide⟩
      refine ifF ?_
      show evB T [_] (dst b r (d + 1) (sD fs) (.fz (.int (w : Int))) (.ow (.lst (sD inner))) (.fz (.lst (sD cs))) m9) _
      refine And.intro (by (first | exact big' (by decide) | exact big (by decide) | exact big' (by simp; done) | exact big (by simp; done))) ?_
      show T.fn 23 (some b) [.opq (.ref b.1), .lst (sD ["do s of", "do of of"])] _
      refine one_str t23 (by simp) (by decide) fun x hx => ?_
      refine And.intro (by (first | exact big' (by decide) | exact big (by decide) | exact big' (by simp; done) | exact big (by simp; done))) ?_
      refine And.intro (big' (by ((simp only [List.length_append, List.length_cons, List.length_nil, sD_len]; omega)))) ?_
      refine And.intro (big' (by ((simp only [List.length_append, List.length_cons, List.length_nil, sD_len]; omega)))) ?_
      refine And.intro (big' (by ((simp only [List.length_append, List.length_cons, List.length_nil, sD_len]; omega)))) ?_
      show evB T [.expr (.mut .append 4 (.cons (.con (.str "end")) .nil))] (dst b r (d + 1) (sD fs ++ [D.str x] ++ sD cs ++ sD inner) (.fz (.int (w : Int))) (.ow (.lst (sD inner))) (.fz (.lst (sD cs))) m9) E
      have e : sD fs ++ [D.str x] ++ sD cs ++ sD inner = sD (fs ++ [x] ++ cs ++ inner) := by rw [sD_app, sD_app, sD_app]; rfl
      rw [e]
      exact last _ _ _ _ _ (by simp only [List.length_append]; omega) (((hg.app (lsB_ok (ls := ["do s of", "do of of"]) (by decide +kernel) |> fun h => .one (h x hx))).app hc.1).app i1) (by simp; omega)
    · repeat refine And.intro (by (first | exact big' (by decide) | exact big (by decide) | exact big' (by simp; done) | exact big (by simp; done))) ?_
      show T.fn 23 (some b) [.opq (.ref b.1), .lst (([[], ["catch"], ["catch e end"], ["catch end", "mark w", "catch"]] : List (List Str)).map fun x => .lst (sD x))] _
      refine one_lst t23 (by simp) (by decide) fun cs hcs => ?_
      have hc : LsG cs ∧ cs.length ≤ 3 := by
        simp only [List.mem_cons, List.not_mem_nil, or_false] at hcs
        rcases hcs with rfl | rfl | rfl | rfl <;> exact ⟨lsB_ok (by decide +kernel), by decide⟩
      refine ifF ?_
      show evB T [_, _] (dst b r (d + 1) (sD fs) (.fz (.int (w : Int))) (.ow (.lst (sD inner))) m8 (.fz (.lst (sD cs)))) _
      refine And.intro (by (first | exact big' (by decide) | exact big (by decide) | exact big' (by simp; done) | exact big (by simp; done))) ?_
      refine And.intro (big' (by ((simp only [List.length_append, List.length_cons, List.length_nil, sD_len]; omega)))) ?_
      refine And.intro (big' (by ((simp only [List.length_append, List.length_cons, List.length_nil, sD_len]; omega)))) ?_
      refine And.intro (big' (by ((simp only [List.length_append, List.length_cons, List.length_nil, sD_len]; omega)))) ?_
      refine And.intro (by (first | exact big' (by decide) | exact big (by decide) | exact big' (by simp; done) | exact big (by simp; done))) ?_
      refine And.intro (big' (by ((simp only [List.length_append, List.length_cons, List.length_nil, sD_len]; omega)))) ?_
      have e : sD fs ++ [D.str "try"] ++ sD inner ++ sD cs ++ [D.str "always"] = sD (fs ++ [("try" : Str)] ++ inner ++ cs ++ [("always" : Str)]) := by rw [sD_app, sD_app, sD_app, sD_app]; rfl
      refine And.intro ⟨by omega, by omega⟩ ?_
      show T.fn 29 (some b) [.opq (.ref b.1), .int (((r / 2 : Nat) : Int) / 2), .int (((d + 1 : Nat) : Int) - 1)] _
      refine drawn_rec (r := r / 2 / 2) t29 (by omega) (by omega) hn4 hd' (by omega) fun inner2 j1 j2 => ?_
      refine And.intro (big' (by show (sD fs ++ [D.str "try"] ++ sD inner ++ sD cs ++ [D.str "always"]).length + (sD inner2).length ≤ _; ((simp only [List.length_append, List.length_cons, List.length_nil, sD_len]; omega)))) ?_
      show evB T [.expr (.mut .append 4 (.cons (.con (.str "end")) .nil))] (dst b r (d + 1) (sD fs ++ [D.str "try"] ++ sD inner ++ sD cs ++ [D.str "always"] ++ sD inner2) (.fz (.int (w : Int))) (.ow (.lst (sD inner))) m8 (.fz (.lst (sD cs)))) E
      rw [e, ← sD_app]
      exact last _ _ _ _ _ (by simp only [List.length_append]; omega) (((((hg.app (lsB_ok (by decide +kernel))).app i1).app hc.1).app (lsB_ok (by decide +kernel))).app j1) (by simp; omega)
end
end K79

set_option Elab.async false
set_option linter.all false
set_option autoImplicit false
set_option maxRecDepth 100000
set_option maxHeartbeats 1000000
/-! K79x: drawn lines whole; torn lines. -/
namespace K79
open PySem PySem.Spec PyProof.Rows L2 DI
section
variable {T : Tb} {β : Option Bag}
theorem drawn_ev {n : Nat} (t21 : T.fn 21 = takeSp) (t23 : T.fn 23 = oneSp) (t29 : T.fn 29 = drawnSp n) {ds : List D} {Q : R → Prop} (h : drawnSp (n + 1) β ds Q) : evB T Tx.bd_l_drawn_lines (sta 10 ds β) (finE β Q) := by
  obtain ⟨b, r, d, rfl, rfl, hr, hd, hn4, q⟩ := h
  show evB T Tx.bd_l_drawn_lines ⟨[.fz (.opq (.ref b.1)), .fz (.int (r : Int)), .fz (.int (d : Int)), .un, .un, .un, .un, .un, .un, .un], some b⟩ _
  refine And.intro (by (first | exact big' (by decide) | exact big (by decide) | exact big' (by simp; done) | exact big (by simp; done))) ?_
  refine And.intro ⟨by omega, by omega⟩ ?_
  show evB T (Tx.bd_l_drawn_lines.drop 1) ⟨[.fz (.opq (.ref b.1)), .fz (.int (r : Int)), .fz (.int (d : Int)), .un, .ow (.lst (sD [])), .fz (.int ((r : Int) / 2)), .un, .un, .un, .un], some b⟩ _
  have e : (r : Int) / 2 = ((r / 2 : Nat) : Int) := by omega
  rw [e]
  refine And.intro (by (first | exact big' (by decide) | exact big (by decide) | exact big' (by simp; done) | exact big (by simp; done))) ?_
  show evB T (Tx.bd_l_drawn_lines.drop 2) (dst b r d (sD []) .un .un .un .un) _
  refine whI (fun m ρ => ∃ (fs : List Str) (m6 m7 m8 m9 : M), ρ = dst b r d (sD fs) m6 m7 m8 m9 ∧ m = (bnL d + 1) - fs.length ∧ LsG fs ∧ fs.length ≤ bnL d) ⟨[], .un, .un, .un, .un, rfl, rfl, LsG.nil, Nat.zero_le _⟩ ?_
  rintro m _ K ⟨fs, m6, m7, m8, m9, rfl, rfl, hg, hl⟩ ht hf
  have fin : evB T [.ret (.var 4)] (dst b r d (sD fs) m6 m7 m8 m9) (finE (some b) Q) := ⟨rfl, q fs hg hl⟩
  show (if decide (((sD fs).length : Int) < (r : Int)) = true then _ else _)
  refine ifL (fun h => ?_) fun h => ?_
  · rw [sD_len] at h
    show T.fn 21 (some b) [.opq (.ref b.1), .int 5] _
    refine take_int t21 (by decide) (by decide) fun x hx => ?_
    show K (decide ((0 : Int) < (x : Int))) _
    by_cases hx0 : (0 : Int) < (x : Int)
    · rw [decide_eq_true hx0]
      refine ht _ fun E2 hnx hct hrt hbk => ?_
      exact dturn t21 t23 t29 (by omega) hr hd (by omega) hg fun ys h1 h2 h3 m6 m7 m8 m9 => ⟨hnx (bnL d + 1 - ys.length) _ (by omega) ⟨ys, m6, m7, m8, m9, rfl, rfl, h2, h3⟩, hct (bnL d + 1 - ys.length) _ (by omega) ⟨ys, m6, m7, m8, m9, rfl, rfl, h2, h3⟩⟩
    · rw [decide_eq_false hx0]
      exact hf _ fin
  · exact hf _ fin
def tornSp : DSp := fun β ds Q => ∃ b : Bag, β = some b ∧ ds = [.opq (.ref b.1), .int 10] ∧ ∀ ls : List Str, LsG ls → ls.length ≤ 10 → Q (.ow (.lst (sD ls)))
theorem torn_mono (β : Option Bag) (ds : List D) (Q Q' : R → Prop) (f : ∀ r, Q r → Q' r) (h : tornSp β ds Q) : tornSp β ds Q' := by
  obtain ⟨b, h1, h2, h3⟩ := h
  exact ⟨b, h1, h2, fun ls a c => f _ (h3 ls a c)⟩
theorem torn_ar (β : Option Bag) (ds : List D) (Q : R → Prop) (h : tornSp β ds Q) : ds.length = 2 := by
  obtain ⟨b, _, rfl, _⟩ := h
  rfl
def tbody : List CS := match Tx.bd_l_torn_lines with
  | [_, .for_ _ _ b, _] => b
  | _ => []
def tw : List Str := ["end", "else", "always", "catch", "case a", "try", "zz", "", "loop", "mark", "mark a", "do a b"]
theorem tw_ok : LsG tw := lsB_ok (by decide +kernel)
abbrev tst (b : Bag) (fs : List D) (m3 m4 m5 m6 : M) : Sta := ⟨[.fz (.opq (.ref b.1)), .fz (.int 10), .ow (.lst fs), m3, m4, m5, m6], some b⟩
theorem LsG.set {fs : List Str} {x : Str} {i : Nat} (h : LsG fs) (hx : Ln 12 x) : LsG (fs.set i x) := fun l hl => by
  rcases List.mem_or_eq_of_mem_set hl with hl | rfl
  · exact h l hl
  · exact hx
theorem LsG.erase {fs : List Str} {i : Nat} (h : LsG fs) : LsG (fs.eraseIdx i) := fun l hl => h l (List.mem_of_mem_eraseIdx hl)
theorem sD_isE (fs : List Str) : eqD (.lst (sD fs)) (.lst []) = fs.isEmpty := by
  rw [eqD_nil]
  cases fs <;> rfl
theorem tturn (t21 : T.fn 21 = takeSp) (t23 : T.fn 23 = oneSp) {b : Bag} {fs : List Str} {m3 m4 m5 m6 : M} {E : En} (hg : LsG fs) (hl : fs.length ≤ 10)
    (q : ∀ ys : List Str, LsG ys → ys.length ≤ 10 → ∀ m3 m4 m5 m6 : M, E.nx (tst b (sD ys) m3 m4 m5 m6)) :
    evB T tbody (tst b (sD fs) m3 m4 m5 m6) E := by
  show T.fn 21 (some b) [.opq (.ref b.1), .int (((sD fs).length : Int) + 1)] _
  refine take_int t21 (by omega) (by rw [sD_len]; omega) fun a ha => ?_
  rw [sD_len] at ha
  show T.fn 21 (some b) [.opq (.ref b.1), .int 4] _
  refine take_int t21 (by decide) (by decide) fun w hw => ?_
  refine And.intro (by (first | exact big' (by decide) | exact big (by decide) | exact big' (by simp; done) | exact big (by simp; done))) ?_
  show T.fn 23 (some b) [.opq (.ref b.1), .lst (sD tw)] _
  refine one_str t23 (by simp [tw]) (by decide) fun x hx => ?_
  have hxo := tw_ok x hx
  show evB T (tbody.drop 2) (tst b (sD fs) m3 (.fz (.str x)) (.fz (.int (a : Int))) (.fz (.int (w : Int)))) E
  have els : evB T (match tbody with | [_, _, .ite _ _ s] => s | _ => []) (tst b (sD fs) m3 (.fz (.str x)) (.fz (.int (a : Int))) (.fz (.int (w : Int)))) E := by
    have pop : evB T [.ite (.cmp .ne (.var 2) (.lst .nil)) [.expr (.mut .popAt 2 (.cons (.op2 .mod (.var 5) (.bi .len (.cons (.var 2) .nil))) .nil))] []] (tst b (sD fs) m3 (.fz (.str x)) (.fz (.int (a : Int))) (.fz (.int (w : Int)))) E := by
      refine And.intro (by (first | exact big' (by decide) | exact big (by decide) | exact big' (by simp; done) | exact big (by simp; done))) ?_
      refine Or.inl (And.intro (nil_eqOk _) ?_)
      show (if (!eqD (.lst (sD fs)) (.lst [])) = true then _ else _)
      rw [sD_isE]
      cases fs with
      | nil => exact q [] LsG.nil (by decide) _ _ _ _
      | cons f fs =>
        have hpos : 0 < (sD (f :: fs)).length := by rw [sD_len]; simp
        obtain ⟨j, hj, hjl⟩ := mod_at hpos (show (0 : Int) ≤ (a : Int) by omega)
        refine ifT ?_
        refine And.intro ⟨_, rfl⟩ ?_
        refine And.intro (by omega) ?_
        have hb : ((a : Int) % ((sD (f :: fs)).length : Int)) = (j : Int) := hj
        refine And.intro (by show -(2 ^ 63) ≤ (a : Int) % ((sD (f :: fs)).length : Int); rw [hb]; omega) (And.intro (by show (a : Int) % ((sD (f :: fs)).length : Int) < 2 ^ 63; rw [hb]; rw [sD_len] at hjl; omega) ?_)
        refine Exists.intro j (Exists.intro _ (And.intro (by show seqIndex? ((a : Int) % ((sD (f :: fs)).length : Int)) _ = _; rw [hj]; exact seq_at hjl) (And.intro (List.getElem?_eq_getElem hjl) ?_)))
        show E.nx (tst b ((sD (f :: fs)).eraseIdx j) m3 (.fz (.str x)) (.fz (.int (a : Int))) (.fz (.int (w : Int))))
        rw [sD_erase]
        exact q _ hg.erase (by have := List.length_eraseIdx_le (f :: fs) j; omega) _ _ _ _
    refine And.intro (by (first | exact big' (by decide) | exact big (by decide) | exact big' (by simp; done) | exact big (by simp; done))) ?_
    refine Or.inl (And.intro (nil_eqOk _) ?_)
    show (if (!eqD (.lst (sD fs)) (.lst [])) = true then _ else _)
    rw [sD_isE]
    cases hfs : fs with
    | nil =>
      subst hfs
      exact pop
    | cons f fs' =>
      subst hfs
      refine ifT ?_
      refine Or.inl (And.intro (Or.inl ⟨rfl, rfl⟩) ?_)
      refine ifI (fun _ => ?_) fun _ => ?_
      · have hpos : 0 < (sD (f :: fs')).length := by rw [sD_len]; simp
        obtain ⟨j, hj, hjl⟩ := mod_at hpos (show (0 : Int) ≤ (a : Int) by omega)
        refine And.intro ⟨_, rfl⟩ ?_
        refine And.intro (by omega) ?_
        refine Exists.intro j (And.intro (by show ixN _ ((a : Int) % ((sD (f :: fs')).length : Int)) = _; rw [hj]; exact ixN_at hjl) ?_)
        show E.nx (tst b ((sD (f :: fs')).set j (.str x)) m3 (.fz (.str x)) (.fz (.int (a : Int))) (.fz (.int (w : Int))))
        rw [sD_set]
        exact q _ (hg.set hxo) (by rw [List.length_set]; exact hl) _ _ _ _
      · exact pop
  refine Or.inl (And.intro (Or.inl ⟨rfl, rfl⟩) ?_)
  refine ifI (fun _ => ?_) fun _ => ?_
  · show (if decide (((sD fs).length : Int) < 10) = true then _ else _)
    refine ifL (fun hlt => ?_) fun _ => ?_
    · rw [sD_len] at hlt
      refine And.intro ⟨_, rfl⟩ ?_
      refine And.intro (by rw [sD_len]; exact big (by omega)) (And.intro (by omega) (And.intro (by omega) ?_))
      show E.nx (tst b ((sD fs).take (Int.toNat (a : Int)) ++ [.str x] ++ (sD fs).drop (Int.toNat (a : Int))) m3 (.fz (.str x)) (.fz (.int (a : Int))) (.fz (.int (w : Int))))
      rw [Int.toNat_natCast, sD_put]
      refine q _ (mem_put_s hg hxo) ?_ _ _ _ _
      simp only [List.length_append, List.length_take, List.length_drop, List.length_cons, List.length_nil]
      omega
    · exact els
  · exact els
theorem torn_ev (t21 : T.fn 21 = takeSp) (t23 : T.fn 23 = oneSp) (t29 : T.fn 29 = drawnSp 4) {ds : List D} {Q : R → Prop} (h : tornSp β ds Q) : evB T Tx.bd_l_torn_lines (sta 7 ds β) (finE β Q) := by
  obtain ⟨b, rfl, rfl, q⟩ := h
  show evB T Tx.bd_l_torn_lines ⟨[.fz (.opq (.ref b.1)), .fz (.int 10), .un, .un, .un, .un, .un], some b⟩ _
  show T.fn 21 (some b) [.opq (.ref b.1), .int 5] _
  refine take_int t21 (by decide) (by decide) fun x hx => ?_
  show T.fn 29 (some b) [.opq (.ref b.1), .int (2 + (x : Int)), .int 2] _
  refine drawn_rec (r := 2 + x) (d := 2) t29 (by omega) (by omega) (by omega) (by decide) rfl fun ls g1 g2 => ?_
  show evB T (Tx.bd_l_torn_lines.drop 1) (tst b (cutD (sD ls) none (some 10)) .un .un .un .un) _
  rw [cut_to (by decide)]
  have e : (sD ls).take (Int.toNat 10) = sD (ls.take 10) := by unfold sD; rw [List.map_take]; rfl
  rw [e]
  show T.fn 21 (some b) [.opq (.ref b.1), .int 3] _
  refine take_int t21 (by decide) (by decide) fun y hy => ?_
  refine And.intro (by omega) (And.intro (by omega) ?_)
  refine forI (fun i ρ => ∃ (fs : List Str) (m3 m4 m5 m6 : M), ρ = tst b (sD fs) m3 m4 m5 m6 ∧ LsG fs ∧ fs.length ≤ 10) ⟨ls.take 10, .un, .un, .un, .un, rfl, fun l hl => g1 l (List.mem_of_mem_take hl), List.length_take_le _ _⟩ ?_ ?_
  · rintro i dd _ E2 hdd ⟨fs, m3, m4, m5, m6, rfl, hg, hl⟩ hnx - - -
    exact tturn (m3 := .fz dd) t21 t23 hg hl fun ys h1 h2 m3 m4 m5 m6 => hnx _ ⟨ys, m3, m4, m5, m6, rfl, h1, h2⟩
  · rintro _ ⟨fs, m3, m4, m5, m6, rfl, hg, hl⟩
    exact ⟨rfl, q fs hg hl⟩
end
end K79

set_option Elab.async false
set_option linter.all false
set_option autoImplicit false
set_option maxRecDepth 100000
set_option maxHeartbeats 1000000
/-! K79y: kinds of odd lines; a text judged; the law. -/
namespace K79
open PySem PySem.Spec PyProof.Rows L2 DI
theorem kd_flat (k : Kd) : k.d.flat = true := by cases k <;> rfl
theorem gr_kd (k : Kd) : Gr 92 0 k.d := by cases k <;> exact ⟨by decide +kernel, by decide +kernel, by decide +kernel, by decide +kernel, by decide +kernel⟩
theorem gr_kds {ks : List Kd} (h : ks.length ≤ 60) : Gr 10000 1 (.lst (kD ks)) := by
  have a := grA_const (xs := kD ks) (n := 92) (m := 0) fun x hx => by
    obtain ⟨k, _, rfl⟩ := List.mem_map.mp hx
    exact gr_kd k
  have : (kD ks).length * (92 + 2) ≤ 60 * 94 := Nat.mul_le_mul (by rw [kD_len]; exact h) (Nat.le_refl _)
  exact a.lst.mono (by omega) (Nat.le_refl _)
def noC (l : Str) : Option D := if (!eqD (.str (cutS l none (some 5))) (.str "catch")) = true then some (.str l) else none
theorem noC_mem {ls : List Str} {d : D} (h : d ∈ ls.filterMap noC) : ∃ l ∈ ls, d = .str l := by
  obtain ⟨l, hl, e⟩ := List.mem_filterMap.mp h
  unfold noC at e
  split at e
  · exact ⟨l, hl, (Option.some.inj e).symm⟩
  · cases e
section
variable {T : Tb} {β : Option Bag}
theorem call_kind {k : Nat} (t2 : T.fn k = kindSp) {s : Str} {Q : R → Prop} (hs : s.length ≤ 1000) (q : Q (.fz (kind s).d)) : T.fn k β [.str s] Q := by
  rw [t2]
  exact ⟨s, rfl, hs, q⟩
def okrSp : DSp := fun β ds Q => ∃ (b : Bag) (ls : List Str), β = some b ∧ ds = [.opq (.ref b.1), .lst (sD ls)] ∧ Lns ls ∧ Q (.fz (.bl true))
theorem okr_mono (β : Option Bag) (ds : List D) (Q Q' : R → Prop) (f : ∀ r, Q r → Q' r) (h : okrSp β ds Q) : okrSp β ds Q' := by
  obtain ⟨b, ls, h1, h2, h3, h4⟩ := h
  exact ⟨b, ls, h1, h2, h3, f _ h4⟩
theorem okr_ar (β : Option Bag) (ds : List D) (Q : R → Prop) (h : okrSp β ds Q) : ds.length = 2 := by
  obtain ⟨b, ls, _, rfl, _⟩ := h
  rfl
theorem okr_ev (t2 : T.fn 2 = kindSp) (t22 : T.fn 22 = alSp) (t28 : T.fn 28 = spoiltSp) (t30 : T.fn 30 = kindSp) {ds : List D} {Q : R → Prop} (h : okrSp β ds Q) : evB T Tx.bd_l_odd_kinds_right (sta 4 ds β) (finE β Q) := by
  obtain ⟨b, ls, rfl, rfl, hls, q⟩ := h
  show evB T Tx.bd_l_odd_kinds_right ⟨[.fz (.opq (.ref b.1)), .fz (.lst (sD ls)), .un, .un], some b⟩ _
  refine compGf D.str noC ls (big (by have := hls.2; omega)) (fun l hl k hk => ?_) ?_
  · have := (hls.1 l hl).len
    refine And.intro (big' (by omega)) ?_
    refine Or.inl (And.intro (Or.inl ⟨rfl, rfl⟩) ?_)
    refine ifB (fun h => ?_) fun h => ?_
    · have h : (!eqD (.str (cutS l none (some 5))) (.str "catch")) = true := h
      have e : noC l = some (.str l) := if_pos h
      rw [e] at hk
      exact hk
    · have h : (!eqD (.str (cutS l none (some 5))) (.str "catch")) = false := h
      have e : noC l = none := if_neg (by rw [h]; decide)
      rw [e] at hk
      exact hk
  show forD _ (cutD (ls.filterMap noC) none (some 4)) _ _
  rw [cut_to (by decide)]
  refine forI (fun i ρ => ∃ (m2 m3 : M), ρ = ⟨[.fz (.opq (.ref b.1)), .fz (.lst (sD ls)), m2, m3], some b⟩) ⟨.un, .un, rfl⟩ ?_ ?_
  · rintro i d _ E2 hd ⟨m2, m3, rfl⟩ hnx - hrt -
    obtain ⟨l, hl, rfl⟩ := noC_mem (List.mem_of_mem_take (List.mem_of_getElem? hd))
    have hll := hls.1 l hl
    show T.fn 28 (some b) [.opq (.ref b.1), .str l] _
    rw [t28]
    refine ⟨b, l, 100, rfl, rfl, hll, by decide, fun s hs => ?_⟩
    have hsl := hs.len
    show evB T [_] ⟨[.fz (.opq (.ref b.1)), .fz (.lst (sD ls)), .fz (.str l), .fz (.str s)], some b⟩ E2
    refine And.intro (big' (by omega)) ?_
    refine Or.inl (And.intro (Or.inl ⟨rfl, rfl⟩) ?_)
    refine ifB (fun h => ?_) fun h => ?_
    · show T.fn 2 (some b) [.str s] _
      refine call_kind t2 (by omega) ?_
      show (if (kind s).d.flat = true then _ else _)
      rw [if_pos (kd_flat _)]
      show T.fn 2 (some b) [.str s] _
      refine call_kind t2 (by omega) ?_
      show (if (kind s).d.flat = true then _ else _)
      rw [if_pos (kd_flat _)]
      refine And.intro (by (first | exact big' (by decide) | exact big (by decide) | exact big' (by simp; done) | exact big (by simp; done))) ?_
      show T.fn 30 (some b) [.str s] _
      refine call_kind t30 (by omega) ?_
      show (if (kind s).d.flat = true then _ else _)
      rw [if_pos (kd_flat _)]
      refine And.intro (by (first | exact big' (by decide) | exact big (by decide) | exact big' (by simp; done) | exact big (by simp; done))) ?_
      refine And.intro (by decide) (And.intro (by decide) (And.intro (big' (by simp)) ?_))
      show T.fn 22 (some b) [.lst [(kind s).d, (kind s).d], .lst [(kind s).d, (kind s).d]] _
      rw [t22]
      have g := (GrA.cons (gr_kd (kind s)) (GrA.cons (gr_kd (kind s)) GrA.nil)).lst
      obtain ⟨s1, s2⟩ := g.al rfl (by decide) (by decide)
      refine ⟨_, rfl, s1, s2, ?_⟩
      refine ⟨true, rfl, ?_⟩
      exact hnx _ ⟨_, _, rfl⟩
    · exact hnx _ ⟨_, _, rfl⟩
  · rintro _ ⟨m2, m3, rfl⟩
    exact ⟨rfl, q⟩
def trSp : DSp := fun β ds Q => ∃ (b : Bag) (ls : List Str), β = some b ∧ ds = [.opq (.ref b.1), .lst (sD ls)] ∧ Lns ls ∧ ls.length ≤ 20 ∧ Q (.fz (.bl true))
theorem tr_mono (β : Option Bag) (ds : List D) (Q Q' : R → Prop) (f : ∀ r, Q r → Q' r) (h : trSp β ds Q) : trSp β ds Q' := by
  obtain ⟨b, ls, h1, h2, h3, h4, h5⟩ := h
  exact ⟨b, ls, h1, h2, h3, h4, f _ h5⟩
theorem tr_ar (β : Option Bag) (ds : List D) (Q : R → Prop) (h : trSp β ds Q) : ds.length = 2 := by
  obtain ⟨b, ls, _, rfl, _⟩ := h
  rfl
abbrev rst (b : Bag) (ls : List Str) (m2 m3 m4 m7 m8 : M) : Sta := ⟨[.fz (.opq (.ref b.1)), .fz (.lst (sD ls)), m2, m3, m4, .fz (.str (textOf ls)), .ow (.lst (kD (ls.map kind))), m7, m8, .un, .un, .un], some b⟩
def rbody : List CS := match Tx.bd_l_text_right with
  | [_, _, .for_ _ _ b, _, _, _] => b
  | _ => []
theorem rturn (t10 : T.fn 10 = fewSp) (t12 : T.fn 12 = mendSp) (t18 : T.fn 18 = costSp) (t34 : T.fn 34 = lismSp) {b : Bag} {ls : List Str} {m2 m7 m8 : M} {E : En} (hls : Lns ls) (h20 : ls.length ≤ 20)
    (q : ∀ (ws : List Wd), ws.length ≤ 42 → ∀ m7, E.nx (rst b ls m2 .un .un m7 (.ow (.lst (wD ws))))) : evB T rbody (rst b ls m2 .un .un m7 m8) E := by
  show T.fn 12 (some b) [.str (textOf ls)] _
  rw [t12]
  refine ⟨ls, rfl, hls, h20, fun ws hws hl => ?_⟩
  obtain ⟨out, ha, hacc, hc⟩ := hws
  show evB T (rbody.drop 1) (rst b ls m2 .un .un (.ow (.lst (wD ws))) m8) E
  show T.fn 34 (some b) [.lst (sD ls), .lst (wD ws)] _
  rw [t34]
  have ho := odd_wd (ws := ws) (by omega)
  refine ⟨ls, _, rfl, hls, ho.thg, ?_⟩
  rw [isMend_wd, ha]
  show (∃ k, _)
  refine ⟨true, by rw [← hacc]; rfl, ?_⟩
  show T.fn 18 (some b) [.lst (wD ws)] _
  rw [t18]
  refine ⟨ws, rfl, by omega, ?_⟩
  show T.fn 10 (some b) [.str (textOf ls)] _
  rw [t10]
  refine ⟨ls, rfl, hls, ?_⟩
  refine Or.inl (And.intro (Or.inl ⟨rfl, rfl⟩) ?_)
  show (if (!eqD (.int (costW ws : Nat)) (.int (tb (ls.map kind) ⟨.rw, 0, ls.length⟩ : Nat))) = true then _ else _)
  rw [eqD_int, hc, decide_eq_true rfl]
  show evB T (rbody.drop 2) (rst b ls m2 .un .un (.ow (.lst (wD ws))) m8) E
  refine And.intro (by show 9 < 12; decide) (And.intro (by rw [wD_len]; exact big' (by omega)) ?_)
  show evB T (rbody.drop 3) (rst b ls m2 .un .un (.ow (.lst (wD ws))) (.ow (.lst (wD ws)))) E
  refine And.intro ⟨_, rfl⟩ ?_
  refine And.intro (by rw [wD_len]; exact big (by omega)) ?_
  exact q ws hl _
theorem tr_ev (t2 : T.fn 2 = kindSp) (t10 : T.fn 10 = fewSp) (t12 : T.fn 12 = mendSp) (t15 : T.fn 15 = closesSp) (t18 : T.fn 18 = costSp) (t22 : T.fn 22 = alSp) (t25 : T.fn 25 = oddSp) (t26 : T.fn 26 = joinSp) (t31 : T.fn 31 = lkindsSp) (t32 : T.fn 32 = closeSp)
    (t34 : T.fn 34 = lismSp) (t36 : T.fn 36 = chSp) (t37 : T.fn 37 = othSp) (t38 : T.fn 38 = mrSp) {ds : List D} {Q : R → Prop} (h : trSp β ds Q) : evB T Tx.bd_l_text_right (sta 12 ds β) (finE β Q) := by
  obtain ⟨b, ls, rfl, rfl, hls, h20, q⟩ := h
  have hk60 : (ls.map kind).length ≤ 60 := by rw [List.length_map]; exact hls.2
  show evB T Tx.bd_l_text_right ⟨[.fz (.opq (.ref b.1)), .fz (.lst (sD ls)), .un, .un, .un, .un, .un, .un, .un, .un, .un, .un], some b⟩ _
  show T.fn 26 (some b) [.lst (sD ls)] _
  rw [t26]
  refine ⟨ls, rfl, hls, ?_⟩
  show T.fn 31 (some b) [.lst (sD ls)] _
  rw [t31]
  refine ⟨ls, rfl, hls, ?_⟩
  show evB T (Tx.bd_l_text_right.drop 1) (rst b ls .un .un .un .un .un) _
  refine compG D.str (fun l => (kind l).d) ls (big (by have := hls.2; omega)) (fun l hl k hk => ?_) ?_
  · show T.fn 2 (some b) [.str l] _
    refine call_kind t2 (by have := (hls.1 l hl).len; omega) ?_
    show (if (kind l).d.flat = true then _ else _)
    rw [if_pos (kd_flat _)]
    exact hk
  have e : ls.map (fun l => (kind l).d) = kD (ls.map kind) := by unfold kD; rw [List.map_map]; rfl
  rw [e]
  show T.fn 22 (some b) [.lst (kD (ls.map kind)), .lst (kD (ls.map kind))] _
  rw [t22]
  obtain ⟨s1, s2⟩ := (gr_kds hk60).al rfl (by decide) (by decide)
  refine ⟨_, rfl, s1, s2, ?_⟩
  refine ⟨true, rfl, ?_⟩
  show T.fn 15 (some b) [.str (textOf ls)] _
  rw [t15]
  refine ⟨ls, rfl, hls, ?_⟩
  show T.fn 32 (some b) [.lst (kD (ls.map kind))] _
  rw [t32]
  refine ⟨_, rfl, hk60, ?_⟩
  show T.fn 22 (some b) [.bl _, .bl _] _
  rw [t22]
  refine ⟨_, rfl, .inr rfl, (ShwN.bl (n := 0) _).shw (by decide) (by rw [sizeLine_eq]; decide), ?_⟩
  refine ⟨true, rfl, ?_⟩
  show evB T (Tx.bd_l_text_right.drop 2) (rst b ls .un .un .un .un .un) _
  refine And.intro (by decide) (And.intro (by decide) ?_)
  refine forI (fun i ρ => ∃ (m2 m7 m8 : M), ρ = rst b ls m2 .un .un m7 m8 ∧ (0 < i → ∃ ws : List Wd, ws.length ≤ 42 ∧ m8 = .ow (.lst (wD ws)))) ⟨.un, .un, .un, rfl, fun h => absurd h (by decide)⟩ ?_ ?_
  · rintro i d _ E2 hd ⟨m2, m7, m8, rfl, _⟩ hnx - - -
    exact rturn (m2 := .fz d) t10 t12 t18 t34 hls h20 fun ws hw m7 => hnx _ ⟨_, _, _, rfl, fun _ => ⟨ws, hw, rfl⟩⟩
  rintro _ ⟨m2, m7, m8, rfl, hw⟩
  obtain ⟨ws, hws, rfl⟩ := hw (by show 0 < (rangeD 0 2).length; decide)
  show T.fn 36 (some b) [.opq (.ref b.1), .lst (sD ls)] _
  rw [t36]
  refine ⟨b, ls, rfl, rfl, h20, fun cs hcs => ?_⟩
  show evB T (Tx.bd_l_text_right.drop 4) (rst b ls m2 (.ow (.lst (wD cs))) .un m7 (.ow (.lst (wD ws)))) _
  have fin : ∀ (L : List D) (m7 : M), L.length ≤ 10 → (∀ d ∈ L, OddV d) → evB T (Tx.bd_l_text_right.drop 5) ⟨[.fz (.opq (.ref b.1)), .fz (.lst (sD ls)), m2, .fz (.lst (wD cs)), .ow (.lst L), .fz (.str (textOf ls)), .ow (.lst (kD (ls.map kind))), m7, .fz (.lst (wD ws)), .un, .un, .un], some b⟩ (finE (some b) Q) := fun L m7 hL hd => by
    refine compF (fun _ => none) (by rw [List.length_nil]; exact big (by omega)) (fun d hm k hk => ?_) ?_
    · show T.fn 38 (some b) [.str (textOf ls), .lst (sD ls), d] _
      rw [t38]
      refine ⟨ls, d, rfl, hls, hd d hm, ?_⟩
      refine ⟨true, rfl, ?_⟩
      exact hk
    · have e : [] ++ L.filterMap (fun _ => (none : Option D)) = [] := by simp
      rw [e]
      refine And.intro (by (first | exact big' (by decide) | exact big (by decide) | exact big' (by simp; done) | exact big (by simp; done))) ?_
      refine Or.inl (And.intro (nil_eqOk _) ?_)
      refine ⟨rfl, ?_⟩
      show Q (.fz (.bl (eqD (.lst []) (.lst []))))
      rw [eqD_nil]
      exact q
  have hkeep : (List.replicate (Int.toNat ((sD ls).length : Int)) [D.str "keep"]).flatten = wD (List.replicate ls.length .kp) := by
    rw [Int.toNat_natCast, sD_len]
    induction ls.length with
    | zero => rfl
    | succ n ih =>
      rw [List.replicate_succ, List.flatten_cons, ih]
      rfl
  have fin2 : ∀ (d1 d2 d3 : D), OddV d1 → OddV d2 → OddV d3 → ∀ m7, evB T (Tx.bd_l_text_right.drop 5) ⟨[.fz (.opq (.ref b.1)), .fz (.lst (sD ls)), m2, .fz (.lst (wD cs)), .ow (.lst [.lst (wD ws), .lst (wD cs), .lst (List.replicate (Int.toNat ((sD ls).length : Int)) [D.str "keep"]).flatten, d1, d2, d3]), .fz (.str (textOf ls)), .ow (.lst (kD (ls.map kind))), m7, .fz (.lst (wD ws)), .un, .un, .un], some b⟩ (finE (some b) Q) := fun d1 d2 d3 h1 h2 h3 m7 => by
    refine fin _ _ (by simp) fun d hd => ?_
    rw [hkeep] at hd
    simp only [List.mem_cons, List.not_mem_nil, or_false] at hd
    rcases hd with rfl | rfl | rfl | rfl | rfl | rfl
    · exact odd_wd (by omega)
    · exact odd_wd (by omega)
    · exact odd_wd (by rw [List.length_replicate]; omega)
    · exact h1
    · exact h2
    · exact h3
  refine And.intro (by (first | exact big' (by decide) | exact big (by decide) | exact big' (by simp; done) | exact big (by simp; done))) ?_
  refine And.intro (by omega) (And.intro (by have := hls.2; rw [sD_len]; omega) (And.intro (big' (by rw [sD_len]; simp; omega)) ?_))
  show T.fn 37 (some b) [.opq (.ref b.1), .lst (wD ws)] _
  rw [t37]
  refine ⟨b, ws, rfl, rfl, by omega, fun d1 hd1 => And.intro (ifS ?_) ?_⟩
  all_goals
    show T.fn 37 (some b) [.opq (.ref b.1), .lst (wD ws)] _
    rw [t37]
    refine ⟨b, ws, rfl, rfl, by omega, fun d2 hd2 => And.intro (ifS ?_) ?_⟩
  all_goals
    show T.fn 25 (some b) [.opq (.ref b.1)] _
    rw [t25]
    refine ⟨b, rfl, rfl, fun d3 hd3 => ifS ?_⟩
    refine And.intro (by (first | exact big' (by decide) | exact big (by decide) | exact big' (by simp; done) | exact big (by simp; done))) ?_
    exact fin2 d1 d2 d3 hd1 hd2 hd3 m7
end
end K79

set_option Elab.async false
set_option linter.all false
set_option autoImplicit false
set_option maxRecDepth 100000
set_option maxHeartbeats 1000000
/-! K79z: the law. -/
namespace K79
open PySem PySem.Spec PyProof.Rows L2 DI
theorem LsG.lns {ls : List Str} (h : LsG ls) (hl : ls.length ≤ 60) : Lns ls := ⟨fun l hm => ⟨Nat.le_trans (h l hm).len (by decide), (h l hm).ok⟩, hl⟩
theorem kind_of1 : (kind "do of").d = .str "single" := by
  have h : kind "do of" = .si := by decide +kernel
  rw [h]
  rfl
theorem kind_of2 : (kind "do of of").d = .str "of" := by
  have h : kind "do of of" = .of := by decide +kernel
  rw [h]
  rfl
theorem noC_map (ls : List Str) : ∃ ps : List Str, ls.filterMap noC = sD ps ∧ ∀ l ∈ ps, l ∈ ls := by
  induction ls with
  | nil => exact ⟨[], rfl, fun _ h => by cases h⟩
  | cons l ls ih =>
    obtain ⟨ps, h1, h2⟩ := ih
    rw [List.filterMap_cons]
    by_cases h : (!eqD (.str (cutS l none (some 5))) (.str "catch")) = true
    · have e : noC l = some (.str l) := if_pos h
      rw [e]
      refine ⟨l :: ps, by rw [h1]; rfl, fun x hx => ?_⟩
      rcases List.mem_cons.mp hx with rfl | hx
      · exact List.mem_cons_self
      · exact List.mem_cons_of_mem _ (h2 x hx)
    · have e : noC l = none := if_neg h
      rw [e]
      exact ⟨ps, h1, fun x hx => List.mem_cons_of_mem _ (h2 x hx)⟩
section
variable {T : Tb} {β : Option Bag}
def lbody2 : List CS := match Tx.bd_law with
  | [.for_ _ _ b, _] => b
  | _ => []
abbrev wst (a : Addr) (ns : List Int) (b : Bag) (m2 m3 m4 m5 : M) : Sta := ⟨[.fz (.scr a ns), .fz (.opq (.ref b.1)), m2, m3, m4, m5, .un], some b⟩
theorem law_turn (t21 : T.fn 21 = takeSp) (t28 : T.fn 28 = spoiltSp) (t35 : T.fn 35 = tornSp) (t39 : T.fn 39 = trSp) (t40 : T.fn 40 = okrSp) {a : Addr} {ns : List Int} {b : Bag} {m2 m3 m4 m5 : M} {E : En}
    (q : ∀ m3 m4 m5, E.nx (wst a ns b m2 m3 m4 m5)) : evB T lbody2 (wst a ns b m2 m3 m4 m5) E := by
  show T.fn 35 (some b) [.opq (.ref b.1), .int 10] _
  rw [t35]
  refine ⟨b, rfl, rfl, fun ls g1 g2 => ?_⟩
  have hls := g1.lns (by omega)
  show evB T (lbody2.drop 1) (wst a ns b m2 (.ow (.lst (sD ls))) m4 m5) E
  refine compGf D.str noC ls (big (by omega)) (fun l hl k hk => ?_) ?_
  · have := (hls.1 l hl).len
    refine And.intro (big' (by omega)) ?_
    refine Or.inl (And.intro (Or.inl ⟨rfl, rfl⟩) ?_)
    refine ifB (fun h => ?_) fun h => ?_
    · have h : (!eqD (.str (cutS l none (some 5))) (.str "catch")) = true := h
      have e : noC l = some (.str l) := if_pos h
      rw [e] at hk
      exact hk
    · have h : (!eqD (.str (cutS l none (some 5))) (.str "catch")) = false := h
      have e : noC l = none := if_neg (by rw [h]; decide)
      rw [e] at hk
      exact hk
  obtain ⟨ps, hps, hpm⟩ := noC_map ls
  rw [hps]
  show evB T (lbody2.drop 2) (wst a ns b m2 (.fz (.lst (sD ls))) (.ow (.lst (sD ps))) m5) E
  have rest : ∀ s : Str, Ln 68 s → evB T (lbody2.drop 3) (wst a ns b m2 (.fz (.lst (sD ls))) (.ow (.lst (sD ps))) (.fz (.str s))) E := fun s hs => by
    have hsl := hs.len
    have tail : ∀ xs : List Str, (xs = [s] ∨ xs = []) → evB T (lbody2.drop 4) (wst a ns b m2 (.ow (.lst (sD (ls ++ xs)))) (.ow (.lst (sD ps))) (.fz (.str s))) E := fun xs hxs => by
      have hl2 : Lns (ls ++ xs) ∧ (ls ++ xs).length ≤ 11 := by
        rcases hxs with rfl | rfl
        · refine ⟨⟨fun l hl => ?_, by simp; omega⟩, by simp; omega⟩
          rcases List.mem_append.mp hl with hl | hl
          · exact hls.1 l hl
          · rw [List.mem_singleton.mp hl]
            exact ⟨by omega, hs.ok⟩
        · rw [List.append_nil]
          exact ⟨hls, by omega⟩
      show T.fn 39 (some b) [.opq (.ref b.1), .lst (sD (ls ++ xs))] _
      rw [t39]
      refine ⟨b, _, rfl, rfl, hl2.1, by omega, ?_⟩
      refine ⟨true, rfl, ?_⟩
      show T.fn 40 (some b) [.opq (.ref b.1), .lst (sD (ls ++ xs))] _
      rw [t40]
      refine ⟨b, _, rfl, rfl, hl2.1, ?_⟩
      refine ⟨true, rfl, ?_⟩
      exact q _ _ _
    refine And.intro (by (first | exact big' (by decide) | exact big (by decide) | exact big' (by simp; done) | exact big (by simp; done))) ?_
    refine And.intro (big' (by omega)) ?_
    refine Or.inl (And.intro (Or.inl ⟨rfl, rfl⟩) ?_)
    generalize hv : (if true then !eqD (.str (cutS s none (some 5))) (.str "catch") else eqD (.str (cutS s none (some 5))) (.str "catch")) = v
    cases v with
    | true =>
      refine And.intro (by decide) (And.intro (by decide) (And.intro (big' (by simp)) ?_))
      refine And.intro (big' (by rw [sD_len]; simp; omega)) ?_
      have z := tail [s] (.inl rfl)
      rw [sD_snoc] at z
      exact z
    | false =>
      refine And.intro (by decide) (And.intro (by decide) (And.intro (big' (by simp)) ?_))
      refine And.intro (big' (by rw [sD_len]; simp; omega)) ?_
      have z := tail [] (.inr rfl)
      rw [sD_app] at z
      exact z
  refine And.intro (by (first | exact big' (by decide) | exact big (by decide) | exact big' (by simp; done) | exact big (by simp; done))) ?_
  refine Or.inl (And.intro (nil_eqOk _) ?_)
  show (if (!eqD (.lst (sD ps)) (.lst [])) = true then _ else _)
  rw [sD_isE]
  cases ps with
  | nil => exact rest "end" ⟨by decide +kernel, by decide +kernel⟩
  | cons p ps =>
    refine ifT ?_
    show T.fn 21 (some b) [.opq (.ref b.1), .int 2] _
    refine take_int t21 (by decide) (by decide) fun x hx => ?_
    refine Or.inl (And.intro (Or.inl ⟨rfl, rfl⟩) ?_)
    refine ifI (fun _ => ?_) fun _ => ?_
    · refine Exists.intro _ (And.intro (at_zero (.str p) (sD ps)) ?_)
      show T.fn 28 (some b) [.opq (.ref b.1), .str p] _
      rw [t28]
      refine ⟨b, p, 12, rfl, rfl, g1 p (hpm p List.mem_cons_self), by decide, fun s hs => ?_⟩
      exact rest s hs
    · exact rest "end" ⟨by decide +kernel, by decide +kernel⟩
theorem law_ev (t2 : T.fn 2 = kindSp) (t21 : T.fn 21 = takeSp) (t28 : T.fn 28 = spoiltSp) (t35 : T.fn 35 = tornSp) (t39 : T.fn 39 = trSp) (t40 : T.fn 40 = okrSp) (a : Addr) (ns : List Int) (b : Bag) : evB T Tx.bd_law (lawSt 5 a ns b) finT := by
  show evB T Tx.bd_law (wst a ns b .un .un .un .un) finT
  refine And.intro (by decide) (And.intro (by decide) ?_)
  refine forI (fun i ρ => ∃ m2 m3 m4 m5 : M, ρ = wst a ns b m2 m3 m4 m5) ⟨_, _, _, _, rfl⟩ ?_ ?_
  · rintro i dd _ E2 hdd ⟨m2, m3, m4, m5, rfl⟩ hnx - - -
    exact law_turn (m2 := .fz dd) t21 t28 t35 t39 t40 fun m3 m4 m5 => hnx _ ⟨_, _, _, _, rfl⟩
  · rintro _ ⟨m2, m3, m4, m5, rfl⟩
    refine And.intro (by (first | exact big' (by decide) | exact big (by decide) | exact big' (by simp; done) | exact big (by simp; done))) ?_
    show T.fn 39 (some b) [.opq (.ref b.1), .lst (sD [])] _
    rw [t39]
    refine ⟨b, [], rfl, rfl, LsG.nil.lns (by decide), by decide, ?_⟩
    show T.fn 2 (some b) [.str "do of"] _
    refine call_kind t2 (by decide +kernel) ?_
    rw [kind_of1]
    refine Or.inl (And.intro (Or.inl ⟨rfl, rfl⟩) ?_)
    show (if eqD (.str "single") (.str "single") = true then _ else _)
    rw [eqD_str, decide_eq_true rfl]
    refine ifT ?_
    show T.fn 2 (some b) [.str "do of of"] _
    refine call_kind t2 (by decide +kernel) ?_
    rw [kind_of2]
    refine Or.inl (And.intro (Or.inl ⟨rfl, rfl⟩) ?_)
    show R.fz (.bl (eqD (.str "of") (.str "of"))) = _
    rw [eqD_str, decide_eq_true rfl]
end
end K79

set_option Elab.async false
set_option linter.all false
set_option maxRecDepth 100000
set_option maxHeartbeats 0
namespace K79
open PySem PySem.Spec PyProof.Rows L2 DI
def tfn (W : Program × World) : Nat → DSp
  | 0 => nmSp
  | 1 => joinSp
  | 2 => kindSp
  | 3 => kindsSp
  | 4 => endsSp
  | 5 => turnsSp
  | 6 => blocksSp
  | 7 => bndSp W
  | 8 => keysSp
  | 9 => floorSp W
  | 10 => fewSp
  | 11 => (fun n _ => toldSp W n) 50 11
  | 12 => mendSp
  | 13 => (fun n _ => closSp n) 61 13
  | 14 => closeSp
  | 15 => closesSp
  | 16 => leftSp
  | 17 => ismSp
  | 18 => costSp
  | 19 => mendedSp
  | 20 => bagSp
  | 21 => takeSp
  | 22 => alSp
  | 23 => oneSp
  | 24 => nmSp
  | 25 => oddSp
  | 26 => joinSp
  | 27 => menuSp
  | 28 => spoiltSp
  | 29 => (fun n _ => drawnSp n) 4 29
  | 30 => kindSp
  | 31 => lkindsSp
  | 32 => closeSp
  | 33 => lmendSp
  | 34 => lismSp
  | 35 => tornSp
  | 36 => chSp
  | 37 => othSp
  | 38 => mrSp
  | 39 => trSp
  | 40 => okrSp
  | _ => fun _ _ _ => False
def tab (W : Program × World) : Tb := { W := W, fn := tfn W, gl := glf, gd := gdf }
theorem take_mono (β : Option Bag) (ds : List D) (Q Q' : R → Prop) (f : ∀ r, Q r → Q' r) (h : takeSp β ds Q) : takeSp β ds Q' := by
  obtain ⟨b, n, h1, h2, h3, h4, h5⟩ := h
  exact ⟨b, n, h1, h2, h3, h4, fun r r0 r1 => f _ (h5 r r0 r1)⟩
theorem bag_mono (β : Option Bag) (ds : List D) (Q Q' : R → Prop) (f : ∀ r, Q r → Q' r) (h : bagSp β ds Q) : bagSp β ds Q' := by
  obtain ⟨a, ns, h1, h2⟩ := h
  exact ⟨a, ns, h1, fun ms hm => f _ (h2 ms hm)⟩
theorem tab_mono (W : Program × World) : (tab W).Mono := by
  refine ⟨fun k β ds Q Q' f h => ?_, fun k β ds Q Q' Z Z' f g h => h.elim⟩
  have h : tfn W k β ds Q := h
  show tfn W k β ds Q'
  match k, h with
  | 0, h => exact nm_mono β ds Q Q' f h
  | 1, h => exact join_mono β ds Q Q' f h
  | 2, h => exact kind_mono β ds Q Q' f h
  | 3, h => exact kinds_mono β ds Q Q' f h
  | 4, h => exact ends_mono β ds Q Q' f h
  | 5, h => exact turns_mono β ds Q Q' f h
  | 6, h => exact blocks_mono β ds Q Q' f h
  | 7, h => exact bnd_mono W β ds Q Q' f h
  | 8, h => exact keys_mono β ds Q Q' f h
  | 9, h => exact floor_mono W β ds Q Q' f h
  | 10, h => exact few_mono β ds Q Q' f h
  | 11, h => exact (fun n _ β ds Q Q' f h => told_mono W n β ds Q Q' f h) 50 11 β ds Q Q' f h
  | 12, h => exact mend_mono β ds Q Q' f h
  | 13, h => exact (fun n _ β ds Q Q' f h => clos_mono n β ds Q Q' f h) 61 13 β ds Q Q' f h
  | 14, h => exact close_mono β ds Q Q' f h
  | 15, h => exact closes_mono β ds Q Q' f h
  | 16, h => exact left_mono β ds Q Q' f h
  | 17, h => exact ism_mono β ds Q Q' f h
  | 18, h => exact cost_mono β ds Q Q' f h
  | 19, h => exact mended_mono β ds Q Q' f h
  | 20, h => exact bag_mono β ds Q Q' f h
  | 21, h => exact take_mono β ds Q Q' f h
  | 22, h => exact al_mono β ds Q Q' f h
  | 23, h => exact one_mono β ds Q Q' f h
  | 24, h => exact nm_mono β ds Q Q' f h
  | 25, h => exact odd_mono β ds Q Q' f h
  | 26, h => exact join_mono β ds Q Q' f h
  | 27, h => exact menu_mono β ds Q Q' f h
  | 28, h => exact spoilt_mono β ds Q Q' f h
  | 29, h => exact (fun n _ β ds Q Q' f h => drawn_mono n β ds Q Q' f h) 4 29 β ds Q Q' f h
  | 30, h => exact kind_mono β ds Q Q' f h
  | 31, h => exact lkinds_mono β ds Q Q' f h
  | 32, h => exact close_mono β ds Q Q' f h
  | 33, h => exact lmend_mono β ds Q Q' f h
  | 34, h => exact lism_mono β ds Q Q' f h
  | 35, h => exact torn_mono β ds Q Q' f h
  | 36, h => exact ch_mono β ds Q Q' f h
  | 37, h => exact oth_mono β ds Q Q' f h
  | 38, h => exact mr_mono β ds Q Q' f h
  | 39, h => exact tr_mono β ds Q Q' f h
  | 40, h => exact okr_mono β ds Q Q' f h
  | k + 41, h => exact h.elim
section
variable {P : Program} {w : World} {K : PySem.W.Frag} {mg : Str → Option Value} {base : Heap}
theorem gls_ {h : Heap} (X : K.In h) (G : h.Ns mainGlobals mg) (c0 : He.SaysX Tx.fas Tx.fns Tx.ts [] Tx.exB w h K) : GlsOk (tab (P, w)) K mg 5 (fun k => Tx.glNames.getD k "") ∧ GdsOk (tab (P, w)) w K mg 1 (fun k => Tx.gdNames.getD k "") := by
  have c := c0.t.d
  have m := c0.more
  unfold Tx.exB at m
  simp only [Bool.and_eq_true] at m
  refine ⟨fun k hk => ?_, fun k hk => ?_⟩
  · match k, hk with
    | 0, _ =>
      obtain ⟨t, e⟩ := He.int_ok X G (c.facts (f := .int "LONGEST" 8) (List.mem_append_right _ (List.mem_append_left _ (by simp [Tx.fas1]))))
      exact ⟨.int 8, _, e, ⟨t, rfl⟩, fun _ => .int _⟩
    | 1, _ =>
      obtain ⟨t, e⟩ := He.str_ok X G (c.facts (f := .str "LETTERS" "abcdefghijklmnopqrstuvwxyz") (List.mem_append_right _ (List.mem_append_left _ (by simp [Tx.fas1]))))
      exact ⟨.str "abcdefghijklmnopqrstuvwxyz", _, e, ⟨t, rfl⟩, fun _ => .str _⟩
    | 2, _ =>
      exact ⟨.ref (He.ga K "SINGLES"), _, He.glo_ok X G (c.facts (f := .glo "SINGLES") (List.mem_append_right _ (List.mem_append_left _ (by simp [Tx.fas1])))), rfl, fun G' => tupB_ok m.1.1.1 G'⟩
    | 3, _ =>
      exact ⟨.ref (He.ga K "PARTS"), _, He.glo_ok X G (c.facts (f := .glo "PARTS") (List.mem_append_right _ (List.mem_append_left _ (by simp [Tx.fas1])))), rfl, fun G' => tupB_ok m.1.1.2 G'⟩
    | 4, _ =>
      exact ⟨.ref (He.ga K "PUT"), _, He.glo_ok X G (c.facts (f := .glo "PUT") (List.mem_append_right _ (List.mem_append_left _ (by simp [Tx.fas1])))), rfl, fun G' => tupB_ok m.1.2 G'⟩
    | k + 5, hk => exact absurd hk (by omega)
  · match k, hk with
    | 0, _ =>
      obtain ⟨es, n, kd⟩ := c0.t.tab 0 (t := (fun K => He.ga K "INNER", ["open", "if", "of", "try"])) rfl
      exact ⟨_, es, n, He.glo_ok X G (c.facts (f := .glo "INNER") (List.mem_append_right _ (List.mem_append_left _ (by simp [Tx.fas1])))), kd, tabB_ok m.2⟩
    | k + 1, hk => exact absurd hk (by omega)
theorem s0 {h : Heap} (X : K.In h) (G : h.Ns mainGlobals mg) (c0 : He.SaysX Tx.fas Tx.fns Tx.ts [] Tx.exB w h K) (tx : TxtOk mg base) {lv : Nat} (hf : FnsOk (tab (P, w)) P w K mg base lv 0 (fun k => Tx.fnNames.getD k "") (fun k => Tx.fnGd.getD k false)) : FOk P w K mg base (Tx.fnGd.getD 0 false) (lv + 1) "is_name" ((tab (P, w)).fn 0) := by
  have c := c0.t.d
  have hg := gls_ (P := P) X G c0
  have tm := tab_mono (P, w)
  obtain ⟨fd, F⟩ := c.def_ 0 (d := Tx.dd_is_name) rfl
  have hm : mg "is_name" = some (.ref (He.ga K "is_name")) := He.glo_ok X G (c.fact 0 (f := .glo "is_name") rfl)
  exact fok_of (S := Tx.sc_is_name) hm F (fun _ _ _ _ _ _ us hl => match us, hl with | [_], _ => rfl) Tx.fs_is_name tm rfl tx rfl hf (fun k hk => absurd hk (Nat.not_lt_zero k)) hg Tx.ck_is_name rfl rfl rfl (fun β ds Q h => nm_ar β ds Q h) fun β ds Q h => nm_ev rfl h
theorem s1 {h : Heap} (X : K.In h) (G : h.Ns mainGlobals mg) (c0 : He.SaysX Tx.fas Tx.fns Tx.ts [] Tx.exB w h K) (tx : TxtOk mg base) {lv : Nat} (hf : FnsOk (tab (P, w)) P w K mg base lv 1 (fun k => Tx.fnNames.getD k "") (fun k => Tx.fnGd.getD k false)) : FOk P w K mg base (Tx.fnGd.getD 1 false) (lv + 1) "joined" ((tab (P, w)).fn 1) := by
  have c := c0.t.d
  have hg := gls_ (P := P) X G c0
  have tm := tab_mono (P, w)
  obtain ⟨fd, F⟩ := c.def_ 1 (d := Tx.dd_joined) rfl
  have hm : mg "joined" = some (.ref (He.ga K "joined")) := He.glo_ok X G (c.fact 1 (f := .glo "joined") rfl)
  exact fok_of (S := Tx.sc_joined) hm F (fun _ _ _ _ _ _ us hl => match us, hl with | [_], _ => rfl) Tx.fs_joined tm rfl tx rfl hf (fun k hk => absurd hk (Nat.not_lt_zero k)) hg Tx.ck_joined rfl rfl rfl (fun β ds Q h => join_ar β ds Q h) fun β ds Q h => join_ev h
theorem s2 {h : Heap} (X : K.In h) (G : h.Ns mainGlobals mg) (c0 : He.SaysX Tx.fas Tx.fns Tx.ts [] Tx.exB w h K) (tx : TxtOk mg base) {lv : Nat} (hf : FnsOk (tab (P, w)) P w K mg base lv 2 (fun k => Tx.fnNames.getD k "") (fun k => Tx.fnGd.getD k false)) : FOk P w K mg base (Tx.fnGd.getD 2 false) (lv + 1) "kind_of" ((tab (P, w)).fn 2) := by
  have c := c0.t.d
  have hg := gls_ (P := P) X G c0
  have tm := tab_mono (P, w)
  obtain ⟨fd, F⟩ := c.def_ 2 (d := Tx.dd_kind_of) rfl
  have hm : mg "kind_of" = some (.ref (He.ga K "kind_of")) := He.glo_ok X G (c.fact 2 (f := .glo "kind_of") rfl)
  exact fok_of (S := Tx.sc_kind_of) hm F (fun _ _ _ _ _ _ us hl => match us, hl with | [_], _ => rfl) Tx.fs_kind_of tm rfl tx rfl hf (fun k hk => absurd hk (Nat.not_lt_zero k)) hg Tx.ck_kind_of rfl rfl rfl (fun β ds Q h => kind_ar β ds Q h) fun β ds Q h => kind_ev rfl rfl h
theorem s3 {h : Heap} (X : K.In h) (G : h.Ns mainGlobals mg) (c0 : He.SaysX Tx.fas Tx.fns Tx.ts [] Tx.exB w h K) (tx : TxtOk mg base) {lv : Nat} (hf : FnsOk (tab (P, w)) P w K mg base lv 3 (fun k => Tx.fnNames.getD k "") (fun k => Tx.fnGd.getD k false)) : FOk P w K mg base (Tx.fnGd.getD 3 false) (lv + 1) "kinds_of" ((tab (P, w)).fn 3) := by
  have c := c0.t.d
  have hg := gls_ (P := P) X G c0
  have tm := tab_mono (P, w)
  obtain ⟨fd, F⟩ := c.def_ 3 (d := Tx.dd_kinds_of) rfl
  have hm : mg "kinds_of" = some (.ref (He.ga K "kinds_of")) := He.glo_ok X G (c.fact 3 (f := .glo "kinds_of") rfl)
  exact fok_of (S := Tx.sc_kinds_of) hm F (fun _ _ _ _ _ _ us hl => match us, hl with | [_], _ => rfl) Tx.fs_kinds_of tm rfl tx rfl hf (fun k hk => absurd hk (Nat.not_lt_zero k)) hg Tx.ck_kinds_of rfl rfl rfl (fun β ds Q h => kinds_ar β ds Q h) fun β ds Q h => kinds_ev rfl h
theorem s4 {h : Heap} (X : K.In h) (G : h.Ns mainGlobals mg) (c0 : He.SaysX Tx.fas Tx.fns Tx.ts [] Tx.exB w h K) (tx : TxtOk mg base) {lv : Nat} (hf : FnsOk (tab (P, w)) P w K mg base lv 4 (fun k => Tx.fnNames.getD k "") (fun k => Tx.fnGd.getD k false)) : FOk P w K mg base (Tx.fnGd.getD 4 false) (lv + 1) "ends_here" ((tab (P, w)).fn 4) := by
  have c := c0.t.d
  have hg := gls_ (P := P) X G c0
  have tm := tab_mono (P, w)
  obtain ⟨fd, F⟩ := c.def_ 4 (d := Tx.dd_ends_here) rfl
  have hm : mg "ends_here" = some (.ref (He.ga K "ends_here")) := He.glo_ok X G (c.fact 4 (f := .glo "ends_here") rfl)
  exact fok_of (S := Tx.sc_ends_here) hm F (fun _ _ _ _ _ _ us hl => match us, hl with | [_, _, _, _], _ => rfl) Tx.fs_ends_here tm rfl tx rfl hf (fun k hk => absurd hk (Nat.not_lt_zero k)) hg Tx.ck_ends_here rfl rfl rfl (fun β ds Q h => ends_ar β ds Q h) fun β ds Q h => ends_ev h
theorem s5 {h : Heap} (X : K.In h) (G : h.Ns mainGlobals mg) (c0 : He.SaysX Tx.fas Tx.fns Tx.ts [] Tx.exB w h K) (tx : TxtOk mg base) {lv : Nat} (hf : FnsOk (tab (P, w)) P w K mg base lv 5 (fun k => Tx.fnNames.getD k "") (fun k => Tx.fnGd.getD k false)) : FOk P w K mg base (Tx.fnGd.getD 5 false) (lv + 1) "turns_here" ((tab (P, w)).fn 5) := by
  have c := c0.t.d
  have hg := gls_ (P := P) X G c0
  have tm := tab_mono (P, w)
  obtain ⟨fd, F⟩ := c.def_ 5 (d := Tx.dd_turns_here) rfl
  have hm : mg "turns_here" = some (.ref (He.ga K "turns_here")) := He.glo_ok X G (c.fact 5 (f := .glo "turns_here") rfl)
  exact fok_of (S := Tx.sc_turns_here) hm F (fun _ _ _ _ _ _ us hl => match us, hl with | [_, _, _, _], _ => rfl) Tx.fs_turns_here tm rfl tx rfl hf (fun k hk => absurd hk (Nat.not_lt_zero k)) hg Tx.ck_turns_here rfl rfl rfl (fun β ds Q h => turns_ar β ds Q h) fun β ds Q h => turns_ev h
theorem s6 {h : Heap} (X : K.In h) (G : h.Ns mainGlobals mg) (c0 : He.SaysX Tx.fas Tx.fns Tx.ts [] Tx.exB w h K) (tx : TxtOk mg base) {lv : Nat} (hf : FnsOk (tab (P, w)) P w K mg base lv 6 (fun k => Tx.fnNames.getD k "") (fun k => Tx.fnGd.getD k false)) : FOk P w K mg base (Tx.fnGd.getD 6 false) (lv + 1) "blocks_here" ((tab (P, w)).fn 6) := by
  have c := c0.t.d
  have hg := gls_ (P := P) X G c0
  have tm := tab_mono (P, w)
  obtain ⟨fd, F⟩ := c.def_ 6 (d := Tx.dd_blocks_here) rfl
  have hm : mg "blocks_here" = some (.ref (He.ga K "blocks_here")) := He.glo_ok X G (c.fact 6 (f := .glo "blocks_here") rfl)
  exact fok_of (S := Tx.sc_blocks_here) hm F (fun _ _ _ _ _ _ us hl => match us, hl with | [_, _, _, _], _ => rfl) Tx.fs_blocks_here tm rfl tx rfl hf (fun k hk => absurd hk (Nat.not_lt_zero k)) hg Tx.ck_blocks_here rfl rfl rfl (fun β ds Q h => blocks_ar β ds Q h) fun β ds Q h => blocks_ev rfl h
theorem s7 {h : Heap} (X : K.In h) (G : h.Ns mainGlobals mg) (c0 : He.SaysX Tx.fas Tx.fns Tx.ts [] Tx.exB w h K) (tx : TxtOk mg base) {lv : Nat} (hf : FnsOk (tab (P, w)) P w K mg base lv 7 (fun k => Tx.fnNames.getD k "") (fun k => Tx.fnGd.getD k false)) : FOk P w K mg base (Tx.fnGd.getD 7 false) (lv + 1) "bounds" ((tab (P, w)).fn 7) := by
  have c := c0.t.d
  have hg := gls_ (P := P) X G c0
  have tm := tab_mono (P, w)
  obtain ⟨fd, F⟩ := c.def_ 7 (d := Tx.dd_bounds) rfl
  have hm : mg "bounds" = some (.ref (He.ga K "bounds")) := He.glo_ok X G (c.fact 7 (f := .glo "bounds") rfl)
  exact fok_of (S := Tx.sc_bounds) hm F (fun _ _ _ _ _ _ us hl => match us, hl with | [_, _, _], _ => rfl) Tx.fs_bounds tm rfl tx rfl hf (fun k hk => absurd hk (Nat.not_lt_zero k)) hg Tx.ck_bounds rfl rfl rfl (fun β ds Q h => bnd_ar (P, w) β ds Q h) fun β ds Q h => bnd_ev (T := tab (P, w)) rfl rfl rfl h
theorem s8 {h : Heap} (X : K.In h) (G : h.Ns mainGlobals mg) (c0 : He.SaysX Tx.fas Tx.fns Tx.ts [] Tx.exB w h K) (tx : TxtOk mg base) {lv : Nat} (hf : FnsOk (tab (P, w)) P w K mg base lv 8 (fun k => Tx.fnNames.getD k "") (fun k => Tx.fnGd.getD k false)) : FOk P w K mg base (Tx.fnGd.getD 8 false) (lv + 1) "keys_of" ((tab (P, w)).fn 8) := by
  have c := c0.t.d
  have hg := gls_ (P := P) X G c0
  have tm := tab_mono (P, w)
  obtain ⟨fd, F⟩ := c.def_ 8 (d := Tx.dd_keys_of) rfl
  have hm : mg "keys_of" = some (.ref (He.ga K "keys_of")) := He.glo_ok X G (c.fact 8 (f := .glo "keys_of") rfl)
  exact fok_of (S := Tx.sc_keys_of) hm F (fun _ _ _ _ _ _ us hl => match us, hl with | [_], _ => rfl) Tx.fs_keys_of tm rfl tx rfl hf (fun k hk => absurd hk (Nat.not_lt_zero k)) hg Tx.ck_keys_of rfl rfl rfl (fun β ds Q h => keys_ar β ds Q h) fun β ds Q h => keysof_ev rfl h
theorem s9 {h : Heap} (X : K.In h) (G : h.Ns mainGlobals mg) (c0 : He.SaysX Tx.fas Tx.fns Tx.ts [] Tx.exB w h K) (tx : TxtOk mg base) {lv : Nat} (hf : FnsOk (tab (P, w)) P w K mg base lv 9 (fun k => Tx.fnNames.getD k "") (fun k => Tx.fnGd.getD k false)) : FOk P w K mg base (Tx.fnGd.getD 9 false) (lv + 1) "floor" ((tab (P, w)).fn 9) := by
  have c := c0.t.d
  have hg := gls_ (P := P) X G c0
  have tm := tab_mono (P, w)
  obtain ⟨fd, F⟩ := c.def_ 9 (d := Tx.dd_floor) rfl
  have hm : mg "floor" = some (.ref (He.ga K "floor")) := He.glo_ok X G (c.fact 9 (f := .glo "floor") rfl)
  exact fok_of (S := Tx.sc_floor) hm F (fun _ _ _ _ _ _ us hl => match us, hl with | [_], _ => rfl) Tx.fs_floor tm rfl tx rfl hf (fun k hk => absurd hk (Nat.not_lt_zero k)) hg Tx.ck_floor rfl rfl rfl (fun β ds Q h => floor_ar (P, w) β ds Q h) fun β ds Q h => floor_ev (T := tab (P, w)) rfl rfl rfl h
theorem s10 {h : Heap} (X : K.In h) (G : h.Ns mainGlobals mg) (c0 : He.SaysX Tx.fas Tx.fns Tx.ts [] Tx.exB w h K) (tx : TxtOk mg base) {lv : Nat} (hf : FnsOk (tab (P, w)) P w K mg base lv 10 (fun k => Tx.fnNames.getD k "") (fun k => Tx.fnGd.getD k false)) : FOk P w K mg base (Tx.fnGd.getD 10 false) (lv + 1) "fewest" ((tab (P, w)).fn 10) := by
  have c := c0.t.d
  have hg := gls_ (P := P) X G c0
  have tm := tab_mono (P, w)
  obtain ⟨fd, F⟩ := c.def_ 10 (d := Tx.dd_fewest) rfl
  have hm : mg "fewest" = some (.ref (He.ga K "fewest")) := He.glo_ok X G (c.fact 10 (f := .glo "fewest") rfl)
  exact fok_of (S := Tx.sc_fewest) hm F (fun _ _ _ _ _ _ us hl => match us, hl with | [_], _ => rfl) Tx.fs_fewest tm rfl tx rfl hf (fun k hk => absurd hk (Nat.not_lt_zero k)) hg Tx.ck_fewest rfl rfl rfl (fun β ds Q h => few_ar β ds Q h) fun β ds Q h => few_ev (T := tab (P, w)) rfl rfl h
theorem s11 {h : Heap} (X : K.In h) (G : h.Ns mainGlobals mg) (c0 : He.SaysX Tx.fas Tx.fns Tx.ts [] Tx.exB w h K) (tx : TxtOk mg base) {lv : Nat} (hf : FnsOk (tab (P, w)) P w K mg base lv 11 (fun k => Tx.fnNames.getD k "") (fun k => Tx.fnGd.getD k false)) : FOk P w K mg base (Tx.fnGd.getD 11 false) (lv + 50) "told_by" ((tab (P, w)).fn 11) := by
  have c := c0.t.d
  have hg := gls_ (P := P) X G c0
  have tm := tab_mono (P, w)
  have q := fam (T := tab (P, w)) (kb := 11) (ke := 12) (sp := (fun n _ => toldSp (P, w) n)) (by decide) hf (fun _ β ds Q => told_zero (P, w) β ds Q) (fun j h1 h2 => ?_) 50
  · have q := q 11 (by decide)
    rw [Tb.from_new (by decide)] at q
    exact q
  · have hj : j = 11 := by omega
    rcases hj with rfl
    · obtain ⟨fd, F⟩ := c.def_ 11 (d := Tx.dd_told_by) rfl
      have hm : mg "told_by" = some (.ref (He.ga K "told_by")) := He.glo_ok X G (c.fact 11 (f := .glo "told_by") rfl)
      exact fam_mem (S := Tx.sc_told_by) (sp := (fun n _ => toldSp (P, w) n)) (j := 11) hm F (fun _ _ _ _ _ _ us hl => match us, hl with | [_, _, _], _ => rfl) Tx.fs_told_by tm (fun n _ β ds Q Q' f h => told_mono (P, w) n β ds Q Q' f h) rfl tx rfl rfl rfl hg Tx.ck_told_by rfl rfl rfl (fun n β ds Q h => told_ar (P, w) n β ds Q h) (fun n β ds Q h => told_ev rfl rfl rfl rfl h)
theorem s12 {h : Heap} (X : K.In h) (G : h.Ns mainGlobals mg) (c0 : He.SaysX Tx.fas Tx.fns Tx.ts [] Tx.exB w h K) (tx : TxtOk mg base) {lv : Nat} (hf : FnsOk (tab (P, w)) P w K mg base lv 12 (fun k => Tx.fnNames.getD k "") (fun k => Tx.fnGd.getD k false)) : FOk P w K mg base (Tx.fnGd.getD 12 false) (lv + 1) "mend" ((tab (P, w)).fn 12) := by
  have c := c0.t.d
  have hg := gls_ (P := P) X G c0
  have tm := tab_mono (P, w)
  obtain ⟨fd, F⟩ := c.def_ 12 (d := Tx.dd_mend) rfl
  have hm : mg "mend" = some (.ref (He.ga K "mend")) := He.glo_ok X G (c.fact 12 (f := .glo "mend") rfl)
  exact fok_of (S := Tx.sc_mend) hm F (fun _ _ _ _ _ _ us hl => match us, hl with | [_], _ => rfl) Tx.fs_mend tm rfl tx rfl hf (fun k hk => absurd hk (Nat.not_lt_zero k)) hg Tx.ck_mend rfl rfl rfl (fun β ds Q h => mend_ar β ds Q h) fun β ds Q h => mend_ev (T := tab (P, w)) rfl rfl rfl h
theorem s13 {h : Heap} (X : K.In h) (G : h.Ns mainGlobals mg) (c0 : He.SaysX Tx.fas Tx.fns Tx.ts [] Tx.exB w h K) (tx : TxtOk mg base) {lv : Nat} (hf : FnsOk (tab (P, w)) P w K mg base lv 13 (fun k => Tx.fnNames.getD k "") (fun k => Tx.fnGd.getD k false)) : FOk P w K mg base (Tx.fnGd.getD 13 false) (lv + 61) "closing" ((tab (P, w)).fn 13) := by
  have c := c0.t.d
  have hg := gls_ (P := P) X G c0
  have tm := tab_mono (P, w)
  have q := fam (T := tab (P, w)) (kb := 13) (ke := 14) (sp := (fun n _ => closSp n)) (by decide) hf (fun _ β ds Q => clos_zero β ds Q) (fun j h1 h2 => ?_) 61
  · have q := q 13 (by decide)
    rw [Tb.from_new (by decide)] at q
    exact q
  · have hj : j = 13 := by omega
    rcases hj with rfl
    · obtain ⟨fd, F⟩ := c.def_ 13 (d := Tx.dd_closing) rfl
      have hm : mg "closing" = some (.ref (He.ga K "closing")) := He.glo_ok X G (c.fact 13 (f := .glo "closing") rfl)
      exact fam_mem (S := Tx.sc_closing) (sp := (fun n _ => closSp n)) (j := 13) hm F (fun _ _ _ _ _ _ us hl => match us, hl with | [_, _, _], _ => rfl) Tx.fs_closing tm (fun n _ β ds Q Q' f h => clos_mono n β ds Q Q' f h) rfl tx rfl rfl rfl hg Tx.ck_closing rfl rfl rfl (fun n β ds Q h => clos_ar n β ds Q h) (fun n β ds Q h => clos_ev rfl rfl rfl h)
theorem s14 {h : Heap} (X : K.In h) (G : h.Ns mainGlobals mg) (c0 : He.SaysX Tx.fas Tx.fns Tx.ts [] Tx.exB w h K) (tx : TxtOk mg base) {lv : Nat} (hf : FnsOk (tab (P, w)) P w K mg base lv 14 (fun k => Tx.fnNames.getD k "") (fun k => Tx.fnGd.getD k false)) : FOk P w K mg base (Tx.fnGd.getD 14 false) (lv + 1) "close" ((tab (P, w)).fn 14) := by
  have c := c0.t.d
  have hg := gls_ (P := P) X G c0
  have tm := tab_mono (P, w)
  obtain ⟨fd, F⟩ := c.def_ 14 (d := Tx.dd_close) rfl
  have hm : mg "close" = some (.ref (He.ga K "close")) := He.glo_ok X G (c.fact 14 (f := .glo "close") rfl)
  exact fok_of (S := Tx.sc_close) hm F (fun _ _ _ _ _ _ us hl => match us, hl with | [_], _ => rfl) Tx.fs_close tm rfl tx rfl hf (fun k hk => absurd hk (Nat.not_lt_zero k)) hg Tx.ck_close rfl rfl rfl (fun β ds Q h => close_ar β ds Q h) fun β ds Q h => close_ev rfl h
theorem s15 {h : Heap} (X : K.In h) (G : h.Ns mainGlobals mg) (c0 : He.SaysX Tx.fas Tx.fns Tx.ts [] Tx.exB w h K) (tx : TxtOk mg base) {lv : Nat} (hf : FnsOk (tab (P, w)) P w K mg base lv 15 (fun k => Tx.fnNames.getD k "") (fun k => Tx.fnGd.getD k false)) : FOk P w K mg base (Tx.fnGd.getD 15 false) (lv + 1) "closes" ((tab (P, w)).fn 15) := by
  have c := c0.t.d
  have hg := gls_ (P := P) X G c0
  have tm := tab_mono (P, w)
  obtain ⟨fd, F⟩ := c.def_ 15 (d := Tx.dd_closes) rfl
  have hm : mg "closes" = some (.ref (He.ga K "closes")) := He.glo_ok X G (c.fact 15 (f := .glo "closes") rfl)
  exact fok_of (S := Tx.sc_closes) hm F (fun _ _ _ _ _ _ us hl => match us, hl with | [_], _ => rfl) Tx.fs_closes tm rfl tx rfl hf (fun k hk => absurd hk (Nat.not_lt_zero k)) hg Tx.ck_closes rfl rfl rfl (fun β ds Q h => closes_ar β ds Q h) fun β ds Q h => closes_ev rfl rfl h
theorem s16 {h : Heap} (X : K.In h) (G : h.Ns mainGlobals mg) (c0 : He.SaysX Tx.fas Tx.fns Tx.ts [] Tx.exB w h K) (tx : TxtOk mg base) {lv : Nat} (hf : FnsOk (tab (P, w)) P w K mg base lv 16 (fun k => Tx.fnNames.getD k "") (fun k => Tx.fnGd.getD k false)) : FOk P w K mg base (Tx.fnGd.getD 16 false) (lv + 1) "lines_left" ((tab (P, w)).fn 16) := by
  have c := c0.t.d
  have hg := gls_ (P := P) X G c0
  have tm := tab_mono (P, w)
  obtain ⟨fd, F⟩ := c.def_ 16 (d := Tx.dd_lines_left) rfl
  have hm : mg "lines_left" = some (.ref (He.ga K "lines_left")) := He.glo_ok X G (c.fact 16 (f := .glo "lines_left") rfl)
  exact fok_of (S := Tx.sc_lines_left) hm F (fun _ _ _ _ _ _ us hl => match us, hl with | [_, _], _ => rfl) Tx.fs_lines_left tm rfl tx rfl hf (fun k hk => absurd hk (Nat.not_lt_zero k)) hg Tx.ck_lines_left rfl rfl rfl (fun β ds Q h => left_ar β ds Q h) fun β ds Q h => left_ev rfl h
theorem s17 {h : Heap} (X : K.In h) (G : h.Ns mainGlobals mg) (c0 : He.SaysX Tx.fas Tx.fns Tx.ts [] Tx.exB w h K) (tx : TxtOk mg base) {lv : Nat} (hf : FnsOk (tab (P, w)) P w K mg base lv 17 (fun k => Tx.fnNames.getD k "") (fun k => Tx.fnGd.getD k false)) : FOk P w K mg base (Tx.fnGd.getD 17 false) (lv + 1) "is_mend" ((tab (P, w)).fn 17) := by
  have c := c0.t.d
  have hg := gls_ (P := P) X G c0
  have tm := tab_mono (P, w)
  obtain ⟨fd, F⟩ := c.def_ 17 (d := Tx.dd_is_mend) rfl
  have hm : mg "is_mend" = some (.ref (He.ga K "is_mend")) := He.glo_ok X G (c.fact 17 (f := .glo "is_mend") rfl)
  exact fok_of (S := Tx.sc_is_mend) hm F (fun _ _ _ _ _ _ us hl => match us, hl with | [_, _], _ => rfl) Tx.fs_is_mend tm rfl tx rfl hf (fun k hk => absurd hk (Nat.not_lt_zero k)) hg Tx.ck_is_mend rfl rfl rfl (fun β ds Q h => ism_ar β ds Q h) fun β ds Q h => ism_ev rfl rfl rfl rfl rfl h
theorem s18 {h : Heap} (X : K.In h) (G : h.Ns mainGlobals mg) (c0 : He.SaysX Tx.fas Tx.fns Tx.ts [] Tx.exB w h K) (tx : TxtOk mg base) {lv : Nat} (hf : FnsOk (tab (P, w)) P w K mg base lv 18 (fun k => Tx.fnNames.getD k "") (fun k => Tx.fnGd.getD k false)) : FOk P w K mg base (Tx.fnGd.getD 18 false) (lv + 1) "cost" ((tab (P, w)).fn 18) := by
  have c := c0.t.d
  have hg := gls_ (P := P) X G c0
  have tm := tab_mono (P, w)
  obtain ⟨fd, F⟩ := c.def_ 18 (d := Tx.dd_cost) rfl
  have hm : mg "cost" = some (.ref (He.ga K "cost")) := He.glo_ok X G (c.fact 18 (f := .glo "cost") rfl)
  exact fok_of (S := Tx.sc_cost) hm F (fun _ _ _ _ _ _ us hl => match us, hl with | [_], _ => rfl) Tx.fs_cost tm rfl tx rfl hf (fun k hk => absurd hk (Nat.not_lt_zero k)) hg Tx.ck_cost rfl rfl rfl (fun β ds Q h => cost_ar β ds Q h) fun β ds Q h => cost_ev h
theorem s19 {h : Heap} (X : K.In h) (G : h.Ns mainGlobals mg) (c0 : He.SaysX Tx.fas Tx.fns Tx.ts [] Tx.exB w h K) (tx : TxtOk mg base) {lv : Nat} (hf : FnsOk (tab (P, w)) P w K mg base lv 19 (fun k => Tx.fnNames.getD k "") (fun k => Tx.fnGd.getD k false)) : FOk P w K mg base (Tx.fnGd.getD 19 false) (lv + 1) "mended" ((tab (P, w)).fn 19) := by
  have c := c0.t.d
  have hg := gls_ (P := P) X G c0
  have tm := tab_mono (P, w)
  obtain ⟨fd, F⟩ := c.def_ 19 (d := Tx.dd_mended) rfl
  have hm : mg "mended" = some (.ref (He.ga K "mended")) := He.glo_ok X G (c.fact 19 (f := .glo "mended") rfl)
  exact fok_of (S := Tx.sc_mended) hm F (fun _ _ _ _ _ _ us hl => match us, hl with | [_, _], _ => rfl) Tx.fs_mended tm rfl tx rfl hf (fun k hk => absurd hk (Nat.not_lt_zero k)) hg Tx.ck_mended rfl rfl rfl (fun β ds Q h => mended_ar β ds Q h) fun β ds Q h => mended_ev rfl rfl h
theorem s20 {h : Heap} (X : K.In h) (G : h.Ns mainGlobals mg) (c0 : He.SaysX Tx.fas Tx.fns Tx.ts [] Tx.exB w h K) (tx : TxtOk mg base) {lv : Nat} (hf : FnsOk (tab (P, w)) P w K mg base lv 20 (fun k => Tx.fnNames.getD k "") (fun k => Tx.fnGd.getD k false)) : FOk P w K mg base (Tx.fnGd.getD 20 false) (lv + 1) "_law_bag" ((tab (P, w)).fn 20) := by
  have c := c0.t.d
  have hg := gls_ (P := P) X G c0
  have tm := tab_mono (P, w)
  obtain ⟨fd, F⟩ := c.def_ 20 (d := Tx.dd_l_bag) rfl
  have hm : mg "_law_bag" = some (.ref (He.ga K "_law_bag")) := He.glo_ok X G (c.fact 20 (f := .glo "_law_bag") rfl)
  exact fok_bag (S := Tx.sc_l_bag) hm F (fun _ _ _ _ _ _ us hl => match us, hl with | [_], _ => rfl) Tx.fs_l_bag rfl tm rfl tx rfl hf (fun k hk => absurd hk (Nat.not_lt_zero k)) hg (by decide +kernel) rfl rfl rfl
theorem s21 {h : Heap} (X : K.In h) (G : h.Ns mainGlobals mg) (c0 : He.SaysX Tx.fas Tx.fns Tx.ts [] Tx.exB w h K) (tx : TxtOk mg base) {lv : Nat} (hf : FnsOk (tab (P, w)) P w K mg base lv 21 (fun k => Tx.fnNames.getD k "") (fun k => Tx.fnGd.getD k false)) : FOk P w K mg base (Tx.fnGd.getD 21 false) (lv + 1) "_law_take" ((tab (P, w)).fn 21) := by
  have c := c0.t.d
  have hg := gls_ (P := P) X G c0
  have tm := tab_mono (P, w)
  obtain ⟨fd, F⟩ := c.def_ 21 (d := Tx.dd_l_take) rfl
  have hm : mg "_law_take" = some (.ref (He.ga K "_law_take")) := He.glo_ok X G (c.fact 21 (f := .glo "_law_take") rfl)
  exact fok_take (S := Tx.sc_l_take) hm F (fun _ _ _ _ _ _ us hl => match us, hl with | [_, _], _ => rfl) Tx.fs_l_take rfl tm rfl tx rfl hf (fun k hk => absurd hk (Nat.not_lt_zero k)) hg (by decide +kernel) rfl rfl rfl
theorem s22 {h : Heap} (X : K.In h) (G : h.Ns mainGlobals mg) (c0 : He.SaysX Tx.fas Tx.fns Tx.ts [] Tx.exB w h K) (tx : TxtOk mg base) {lv : Nat} (hf : FnsOk (tab (P, w)) P w K mg base lv 22 (fun k => Tx.fnNames.getD k "") (fun k => Tx.fnGd.getD k false)) : FOk P w K mg base (Tx.fnGd.getD 22 false) (lv + 1) "_law_alike" ((tab (P, w)).fn 22) := by
  have c := c0.t.d
  have hg := gls_ (P := P) X G c0
  have tm := tab_mono (P, w)
  obtain ⟨fd, F⟩ := c.def_ 22 (d := Tx.dd_l_alike) rfl
  have hm : mg "_law_alike" = some (.ref (He.ga K "_law_alike")) := He.glo_ok X G (c.fact 22 (f := .glo "_law_alike") rfl)
  exact fok_of (S := Tx.sc_l_alike) hm F (fun _ _ _ _ _ _ us hl => match us, hl with | [_, _], _ => rfl) Tx.fs_l_alike tm rfl tx rfl hf (fun k hk => absurd hk (Nat.not_lt_zero k)) hg Tx.ck_l_alike rfl rfl rfl (fun β ds Q h => al_ar β ds Q h) fun β ds Q h => al_ev h
theorem s23 {h : Heap} (X : K.In h) (G : h.Ns mainGlobals mg) (c0 : He.SaysX Tx.fas Tx.fns Tx.ts [] Tx.exB w h K) (tx : TxtOk mg base) {lv : Nat} (hf : FnsOk (tab (P, w)) P w K mg base lv 23 (fun k => Tx.fnNames.getD k "") (fun k => Tx.fnGd.getD k false)) : FOk P w K mg base (Tx.fnGd.getD 23 false) (lv + 1) "_law_one" ((tab (P, w)).fn 23) := by
  have c := c0.t.d
  have hg := gls_ (P := P) X G c0
  have tm := tab_mono (P, w)
  obtain ⟨fd, F⟩ := c.def_ 23 (d := Tx.dd_l_one) rfl
  have hm : mg "_law_one" = some (.ref (He.ga K "_law_one")) := He.glo_ok X G (c.fact 23 (f := .glo "_law_one") rfl)
  exact fok_of (S := Tx.sc_l_one) hm F (fun _ _ _ _ _ _ us hl => match us, hl with | [_, _], _ => rfl) Tx.fs_l_one tm rfl tx rfl hf (fun k hk => absurd hk (Nat.not_lt_zero k)) hg Tx.ck_l_one rfl rfl rfl (fun β ds Q h => one_ar β ds Q h) fun β ds Q h => one_ev rfl h
theorem s24 {h : Heap} (X : K.In h) (G : h.Ns mainGlobals mg) (c0 : He.SaysX Tx.fas Tx.fns Tx.ts [] Tx.exB w h K) (tx : TxtOk mg base) {lv : Nat} (hf : FnsOk (tab (P, w)) P w K mg base lv 24 (fun k => Tx.fnNames.getD k "") (fun k => Tx.fnGd.getD k false)) : FOk P w K mg base (Tx.fnGd.getD 24 false) (lv + 1) "_law_is_name" ((tab (P, w)).fn 24) := by
  have c := c0.t.d
  have hg := gls_ (P := P) X G c0
  have tm := tab_mono (P, w)
  obtain ⟨fd, F⟩ := c.def_ 24 (d := Tx.dd_l_is_name) rfl
  have hm : mg "_law_is_name" = some (.ref (He.ga K "_law_is_name")) := He.glo_ok X G (c.fact 24 (f := .glo "_law_is_name") rfl)
  exact fok_of (S := Tx.sc_l_is_name) hm F (fun _ _ _ _ _ _ us hl => match us, hl with | [_], _ => rfl) Tx.fs_l_is_name tm rfl tx rfl hf (fun k hk => absurd hk (Nat.not_lt_zero k)) hg Tx.ck_l_is_name rfl rfl rfl (fun β ds Q h => nm_ar β ds Q h) fun β ds Q h => lnm_ev h
theorem s25 {h : Heap} (X : K.In h) (G : h.Ns mainGlobals mg) (c0 : He.SaysX Tx.fas Tx.fns Tx.ts [] Tx.exB w h K) (tx : TxtOk mg base) {lv : Nat} (hf : FnsOk (tab (P, w)) P w K mg base lv 25 (fun k => Tx.fnNames.getD k "") (fun k => Tx.fnGd.getD k false)) : FOk P w K mg base (Tx.fnGd.getD 25 false) (lv + 1) "_law_odd" ((tab (P, w)).fn 25) := by
  have c := c0.t.d
  have hg := gls_ (P := P) X G c0
  have tm := tab_mono (P, w)
  obtain ⟨fd, F⟩ := c.def_ 25 (d := Tx.dd_l_odd) rfl
  have hm : mg "_law_odd" = some (.ref (He.ga K "_law_odd")) := He.glo_ok X G (c.fact 25 (f := .glo "_law_odd") rfl)
  exact fok_of (S := Tx.sc_l_odd) hm F (fun _ _ _ _ _ _ us hl => match us, hl with | [_], _ => rfl) Tx.fs_l_odd tm rfl tx rfl hf (fun k hk => absurd hk (Nat.not_lt_zero k)) hg Tx.ck_l_odd rfl rfl rfl (fun β ds Q h => odd_ar β ds Q h) fun β ds Q h => odd_ev rfl rfl h
theorem s26 {h : Heap} (X : K.In h) (G : h.Ns mainGlobals mg) (c0 : He.SaysX Tx.fas Tx.fns Tx.ts [] Tx.exB w h K) (tx : TxtOk mg base) {lv : Nat} (hf : FnsOk (tab (P, w)) P w K mg base lv 26 (fun k => Tx.fnNames.getD k "") (fun k => Tx.fnGd.getD k false)) : FOk P w K mg base (Tx.fnGd.getD 26 false) (lv + 1) "_law_text" ((tab (P, w)).fn 26) := by
  have c := c0.t.d
  have hg := gls_ (P := P) X G c0
  have tm := tab_mono (P, w)
  obtain ⟨fd, F⟩ := c.def_ 26 (d := Tx.dd_l_text) rfl
  have hm : mg "_law_text" = some (.ref (He.ga K "_law_text")) := He.glo_ok X G (c.fact 26 (f := .glo "_law_text") rfl)
  exact fok_of (S := Tx.sc_l_text) hm F (fun _ _ _ _ _ _ us hl => match us, hl with | [_], _ => rfl) Tx.fs_l_text tm rfl tx rfl hf (fun k hk => absurd hk (Nat.not_lt_zero k)) hg Tx.ck_l_text rfl rfl rfl (fun β ds Q h => join_ar β ds Q h) fun β ds Q h => ltext_ev h
theorem s27 {h : Heap} (X : K.In h) (G : h.Ns mainGlobals mg) (c0 : He.SaysX Tx.fas Tx.fns Tx.ts [] Tx.exB w h K) (tx : TxtOk mg base) {lv : Nat} (hf : FnsOk (tab (P, w)) P w K mg base lv 27 (fun k => Tx.fnNames.getD k "") (fun k => Tx.fnGd.getD k false)) : FOk P w K mg base (Tx.fnGd.getD 27 false) (lv + 1) "_law_words_menu" ((tab (P, w)).fn 27) := by
  have c := c0.t.d
  have hg := gls_ (P := P) X G c0
  have tm := tab_mono (P, w)
  obtain ⟨fd, F⟩ := c.def_ 27 (d := Tx.dd_l_words_menu) rfl
  have hm : mg "_law_words_menu" = some (.ref (He.ga K "_law_words_menu")) := He.glo_ok X G (c.fact 27 (f := .glo "_law_words_menu") rfl)
  exact fok_of (S := Tx.sc_l_words_menu) hm F (fun _ _ _ _ _ _ us hl => match us, hl with | [], _ => rfl) Tx.fs_l_words_menu tm rfl tx rfl hf (fun k hk => absurd hk (Nat.not_lt_zero k)) hg Tx.ck_l_words_menu rfl rfl rfl (fun β ds Q h => menu_ar β ds Q h) fun β ds Q h => menu_ev h
theorem s28 {h : Heap} (X : K.In h) (G : h.Ns mainGlobals mg) (c0 : He.SaysX Tx.fas Tx.fns Tx.ts [] Tx.exB w h K) (tx : TxtOk mg base) {lv : Nat} (hf : FnsOk (tab (P, w)) P w K mg base lv 28 (fun k => Tx.fnNames.getD k "") (fun k => Tx.fnGd.getD k false)) : FOk P w K mg base (Tx.fnGd.getD 28 false) (lv + 1) "_law_line_spoilt" ((tab (P, w)).fn 28) := by
  have c := c0.t.d
  have hg := gls_ (P := P) X G c0
  have tm := tab_mono (P, w)
  obtain ⟨fd, F⟩ := c.def_ 28 (d := Tx.dd_l_line_spoilt) rfl
  have hm : mg "_law_line_spoilt" = some (.ref (He.ga K "_law_line_spoilt")) := He.glo_ok X G (c.fact 28 (f := .glo "_law_line_spoilt") rfl)
  exact fok_of (S := Tx.sc_l_line_spoilt) hm F (fun _ _ _ _ _ _ us hl => match us, hl with | [_, _], _ => rfl) Tx.fs_l_line_spoilt tm rfl tx rfl hf (fun k hk => absurd hk (Nat.not_lt_zero k)) hg Tx.ck_l_line_spoilt rfl rfl rfl (fun β ds Q h => spoilt_ar β ds Q h) fun β ds Q h => spoilt_ev rfl rfl rfl h
theorem s29 {h : Heap} (X : K.In h) (G : h.Ns mainGlobals mg) (c0 : He.SaysX Tx.fas Tx.fns Tx.ts [] Tx.exB w h K) (tx : TxtOk mg base) {lv : Nat} (hf : FnsOk (tab (P, w)) P w K mg base lv 29 (fun k => Tx.fnNames.getD k "") (fun k => Tx.fnGd.getD k false)) : FOk P w K mg base (Tx.fnGd.getD 29 false) (lv + 4) "_law_drawn_lines" ((tab (P, w)).fn 29) := by
  have c := c0.t.d
  have hg := gls_ (P := P) X G c0
  have tm := tab_mono (P, w)
  have q := fam (T := tab (P, w)) (kb := 29) (ke := 30) (sp := (fun n _ => drawnSp n)) (by decide) hf (fun _ β ds Q => drawn_zero β ds Q) (fun j h1 h2 => ?_) 4
  · have q := q 29 (by decide)
    rw [Tb.from_new (by decide)] at q
    exact q
  · have hj : j = 29 := by omega
    rcases hj with rfl
    · obtain ⟨fd, F⟩ := c.def_ 29 (d := Tx.dd_l_drawn_lines) rfl
      have hm : mg "_law_drawn_lines" = some (.ref (He.ga K "_law_drawn_lines")) := He.glo_ok X G (c.fact 29 (f := .glo "_law_drawn_lines") rfl)
      exact fam_mem (S := Tx.sc_l_drawn_lines) (sp := (fun n _ => drawnSp n)) (j := 29) hm F (fun _ _ _ _ _ _ us hl => match us, hl with | [_, _, _], _ => rfl) Tx.fs_l_drawn_lines tm (fun n _ β ds Q Q' f h => drawn_mono n β ds Q Q' f h) rfl tx rfl rfl rfl hg Tx.ck_l_drawn_lines rfl rfl rfl (fun n β ds Q h => drawn_ar n β ds Q h) (fun n β ds Q h => drawn_ev rfl rfl rfl h)
theorem s30 {h : Heap} (X : K.In h) (G : h.Ns mainGlobals mg) (c0 : He.SaysX Tx.fas Tx.fns Tx.ts [] Tx.exB w h K) (tx : TxtOk mg base) {lv : Nat} (hf : FnsOk (tab (P, w)) P w K mg base lv 30 (fun k => Tx.fnNames.getD k "") (fun k => Tx.fnGd.getD k false)) : FOk P w K mg base (Tx.fnGd.getD 30 false) (lv + 1) "_law_kind" ((tab (P, w)).fn 30) := by
  have c := c0.t.d
  have hg := gls_ (P := P) X G c0
  have tm := tab_mono (P, w)
  obtain ⟨fd, F⟩ := c.def_ 30 (d := Tx.dd_l_kind) rfl
  have hm : mg "_law_kind" = some (.ref (He.ga K "_law_kind")) := He.glo_ok X G (c.fact 30 (f := .glo "_law_kind") rfl)
  exact fok_of (S := Tx.sc_l_kind) hm F (fun _ _ _ _ _ _ us hl => match us, hl with | [_], _ => rfl) Tx.fs_l_kind tm rfl tx rfl hf (fun k hk => absurd hk (Nat.not_lt_zero k)) hg Tx.ck_l_kind rfl rfl rfl (fun β ds Q h => kind_ar β ds Q h) fun β ds Q h => lkind_ev rfl h
theorem s31 {h : Heap} (X : K.In h) (G : h.Ns mainGlobals mg) (c0 : He.SaysX Tx.fas Tx.fns Tx.ts [] Tx.exB w h K) (tx : TxtOk mg base) {lv : Nat} (hf : FnsOk (tab (P, w)) P w K mg base lv 31 (fun k => Tx.fnNames.getD k "") (fun k => Tx.fnGd.getD k false)) : FOk P w K mg base (Tx.fnGd.getD 31 false) (lv + 1) "_law_kinds" ((tab (P, w)).fn 31) := by
  have c := c0.t.d
  have hg := gls_ (P := P) X G c0
  have tm := tab_mono (P, w)
  obtain ⟨fd, F⟩ := c.def_ 31 (d := Tx.dd_l_kinds) rfl
  have hm : mg "_law_kinds" = some (.ref (He.ga K "_law_kinds")) := He.glo_ok X G (c.fact 31 (f := .glo "_law_kinds") rfl)
  exact fok_of (S := Tx.sc_l_kinds) hm F (fun _ _ _ _ _ _ us hl => match us, hl with | [_], _ => rfl) Tx.fs_l_kinds tm rfl tx rfl hf (fun k hk => absurd hk (Nat.not_lt_zero k)) hg Tx.ck_l_kinds rfl rfl rfl (fun β ds Q h => lkinds_ar β ds Q h) fun β ds Q h => lkinds_ev rfl h
theorem s32 {h : Heap} (X : K.In h) (G : h.Ns mainGlobals mg) (c0 : He.SaysX Tx.fas Tx.fns Tx.ts [] Tx.exB w h K) (tx : TxtOk mg base) {lv : Nat} (hf : FnsOk (tab (P, w)) P w K mg base lv 32 (fun k => Tx.fnNames.getD k "") (fun k => Tx.fnGd.getD k false)) : FOk P w K mg base (Tx.fnGd.getD 32 false) (lv + 1) "_law_close" ((tab (P, w)).fn 32) := by
  have c := c0.t.d
  have hg := gls_ (P := P) X G c0
  have tm := tab_mono (P, w)
  obtain ⟨fd, F⟩ := c.def_ 32 (d := Tx.dd_l_close) rfl
  have hm : mg "_law_close" = some (.ref (He.ga K "_law_close")) := He.glo_ok X G (c.fact 32 (f := .glo "_law_close") rfl)
  exact fok_of (S := Tx.sc_l_close) hm F (fun _ _ _ _ _ _ us hl => match us, hl with | [_], _ => rfl) Tx.fs_l_close tm rfl tx rfl hf (fun k hk => absurd hk (Nat.not_lt_zero k)) hg Tx.ck_l_close rfl rfl rfl (fun β ds Q h => close_ar β ds Q h) fun β ds Q h => lclose_ev h
theorem s33 {h : Heap} (X : K.In h) (G : h.Ns mainGlobals mg) (c0 : He.SaysX Tx.fas Tx.fns Tx.ts [] Tx.exB w h K) (tx : TxtOk mg base) {lv : Nat} (hf : FnsOk (tab (P, w)) P w K mg base lv 33 (fun k => Tx.fnNames.getD k "") (fun k => Tx.fnGd.getD k false)) : FOk P w K mg base (Tx.fnGd.getD 33 false) (lv + 1) "_law_mended" ((tab (P, w)).fn 33) := by
  have c := c0.t.d
  have hg := gls_ (P := P) X G c0
  have tm := tab_mono (P, w)
  obtain ⟨fd, F⟩ := c.def_ 33 (d := Tx.dd_l_mended) rfl
  have hm : mg "_law_mended" = some (.ref (He.ga K "_law_mended")) := He.glo_ok X G (c.fact 33 (f := .glo "_law_mended") rfl)
  exact fok_of (S := Tx.sc_l_mended) hm F (fun _ _ _ _ _ _ us hl => match us, hl with | [_, _], _ => rfl) Tx.fs_l_mended tm rfl tx rfl hf (fun k hk => absurd hk (Nat.not_lt_zero k)) hg Tx.ck_l_mended rfl rfl rfl (fun β ds Q h => lmend_ar β ds Q h) fun β ds Q h => lmend_ev h
theorem s34 {h : Heap} (X : K.In h) (G : h.Ns mainGlobals mg) (c0 : He.SaysX Tx.fas Tx.fns Tx.ts [] Tx.exB w h K) (tx : TxtOk mg base) {lv : Nat} (hf : FnsOk (tab (P, w)) P w K mg base lv 34 (fun k => Tx.fnNames.getD k "") (fun k => Tx.fnGd.getD k false)) : FOk P w K mg base (Tx.fnGd.getD 34 false) (lv + 1) "_law_is_mend" ((tab (P, w)).fn 34) := by
  have c := c0.t.d
  have hg := gls_ (P := P) X G c0
  have tm := tab_mono (P, w)
  obtain ⟨fd, F⟩ := c.def_ 34 (d := Tx.dd_l_is_mend) rfl
  have hm : mg "_law_is_mend" = some (.ref (He.ga K "_law_is_mend")) := He.glo_ok X G (c.fact 34 (f := .glo "_law_is_mend") rfl)
  exact fok_of (S := Tx.sc_l_is_mend) hm F (fun _ _ _ _ _ _ us hl => match us, hl with | [_, _], _ => rfl) Tx.fs_l_is_mend tm rfl tx rfl hf (fun k hk => absurd hk (Nat.not_lt_zero k)) hg Tx.ck_l_is_mend rfl rfl rfl (fun β ds Q h => lism_ar β ds Q h) fun β ds Q h => lism_ev rfl rfl rfl h
theorem s35 {h : Heap} (X : K.In h) (G : h.Ns mainGlobals mg) (c0 : He.SaysX Tx.fas Tx.fns Tx.ts [] Tx.exB w h K) (tx : TxtOk mg base) {lv : Nat} (hf : FnsOk (tab (P, w)) P w K mg base lv 35 (fun k => Tx.fnNames.getD k "") (fun k => Tx.fnGd.getD k false)) : FOk P w K mg base (Tx.fnGd.getD 35 false) (lv + 1) "_law_torn_lines" ((tab (P, w)).fn 35) := by
  have c := c0.t.d
  have hg := gls_ (P := P) X G c0
  have tm := tab_mono (P, w)
  obtain ⟨fd, F⟩ := c.def_ 35 (d := Tx.dd_l_torn_lines) rfl
  have hm : mg "_law_torn_lines" = some (.ref (He.ga K "_law_torn_lines")) := He.glo_ok X G (c.fact 35 (f := .glo "_law_torn_lines") rfl)
  exact fok_of (S := Tx.sc_l_torn_lines) hm F (fun _ _ _ _ _ _ us hl => match us, hl with | [_, _], _ => rfl) Tx.fs_l_torn_lines tm rfl tx rfl hf (fun k hk => absurd hk (Nat.not_lt_zero k)) hg Tx.ck_l_torn_lines rfl rfl rfl (fun β ds Q h => torn_ar β ds Q h) fun β ds Q h => torn_ev rfl rfl rfl h
theorem s36 {h : Heap} (X : K.In h) (G : h.Ns mainGlobals mg) (c0 : He.SaysX Tx.fas Tx.fns Tx.ts [] Tx.exB w h K) (tx : TxtOk mg base) {lv : Nat} (hf : FnsOk (tab (P, w)) P w K mg base lv 36 (fun k => Tx.fnNames.getD k "") (fun k => Tx.fnGd.getD k false)) : FOk P w K mg base (Tx.fnGd.getD 36 false) (lv + 1) "_law_chance" ((tab (P, w)).fn 36) := by
  have c := c0.t.d
  have hg := gls_ (P := P) X G c0
  have tm := tab_mono (P, w)
  obtain ⟨fd, F⟩ := c.def_ 36 (d := Tx.dd_l_chance) rfl
  have hm : mg "_law_chance" = some (.ref (He.ga K "_law_chance")) := He.glo_ok X G (c.fact 36 (f := .glo "_law_chance") rfl)
  exact fok_of (S := Tx.sc_l_chance) hm F (fun _ _ _ _ _ _ us hl => match us, hl with | [_, _], _ => rfl) Tx.fs_l_chance tm rfl tx rfl hf (fun k hk => absurd hk (Nat.not_lt_zero k)) hg Tx.ck_l_chance rfl rfl rfl (fun β ds Q h => ch_ar β ds Q h) fun β ds Q h => ch_ev rfl rfl h
theorem s37 {h : Heap} (X : K.In h) (G : h.Ns mainGlobals mg) (c0 : He.SaysX Tx.fas Tx.fns Tx.ts [] Tx.exB w h K) (tx : TxtOk mg base) {lv : Nat} (hf : FnsOk (tab (P, w)) P w K mg base lv 37 (fun k => Tx.fnNames.getD k "") (fun k => Tx.fnGd.getD k false)) : FOk P w K mg base (Tx.fnGd.getD 37 false) (lv + 1) "_law_otherwise" ((tab (P, w)).fn 37) := by
  have c := c0.t.d
  have hg := gls_ (P := P) X G c0
  have tm := tab_mono (P, w)
  obtain ⟨fd, F⟩ := c.def_ 37 (d := Tx.dd_l_otherwise) rfl
  have hm : mg "_law_otherwise" = some (.ref (He.ga K "_law_otherwise")) := He.glo_ok X G (c.fact 37 (f := .glo "_law_otherwise") rfl)
  exact fok_of (S := Tx.sc_l_otherwise) hm F (fun _ _ _ _ _ _ us hl => match us, hl with | [_, _], _ => rfl) Tx.fs_l_otherwise tm rfl tx rfl hf (fun k hk => absurd hk (Nat.not_lt_zero k)) hg Tx.ck_l_otherwise rfl rfl rfl (fun β ds Q h => oth_ar β ds Q h) fun β ds Q h => oth_ev rfl rfl h
theorem s38 {h : Heap} (X : K.In h) (G : h.Ns mainGlobals mg) (c0 : He.SaysX Tx.fas Tx.fns Tx.ts [] Tx.exB w h K) (tx : TxtOk mg base) {lv : Nat} (hf : FnsOk (tab (P, w)) P w K mg base lv 38 (fun k => Tx.fnNames.getD k "") (fun k => Tx.fnGd.getD k false)) : FOk P w K mg base (Tx.fnGd.getD 38 false) (lv + 1) "_law_mend_right" ((tab (P, w)).fn 38) := by
  have c := c0.t.d
  have hg := gls_ (P := P) X G c0
  have tm := tab_mono (P, w)
  obtain ⟨fd, F⟩ := c.def_ 38 (d := Tx.dd_l_mend_right) rfl
  have hm : mg "_law_mend_right" = some (.ref (He.ga K "_law_mend_right")) := He.glo_ok X G (c.fact 38 (f := .glo "_law_mend_right") rfl)
  exact fok_of (S := Tx.sc_l_mend_right) hm F (fun _ _ _ _ _ _ us hl => match us, hl with | [_, _, _], _ => rfl) Tx.fs_l_mend_right tm rfl tx rfl hf (fun k hk => absurd hk (Nat.not_lt_zero k)) hg Tx.ck_l_mend_right rfl rfl rfl (fun β ds Q h => mr_ar β ds Q h) fun β ds Q h => mr_ev rfl rfl rfl rfl rfl rfl rfl rfl h
theorem s39 {h : Heap} (X : K.In h) (G : h.Ns mainGlobals mg) (c0 : He.SaysX Tx.fas Tx.fns Tx.ts [] Tx.exB w h K) (tx : TxtOk mg base) {lv : Nat} (hf : FnsOk (tab (P, w)) P w K mg base lv 39 (fun k => Tx.fnNames.getD k "") (fun k => Tx.fnGd.getD k false)) : FOk P w K mg base (Tx.fnGd.getD 39 false) (lv + 1) "_law_text_right" ((tab (P, w)).fn 39) := by
  have c := c0.t.d
  have hg := gls_ (P := P) X G c0
  have tm := tab_mono (P, w)
  obtain ⟨fd, F⟩ := c.def_ 39 (d := Tx.dd_l_text_right) rfl
  have hm : mg "_law_text_right" = some (.ref (He.ga K "_law_text_right")) := He.glo_ok X G (c.fact 39 (f := .glo "_law_text_right") rfl)
  exact fok_of (S := Tx.sc_l_text_right) hm F (fun _ _ _ _ _ _ us hl => match us, hl with | [_, _], _ => rfl) Tx.fs_l_text_right tm rfl tx rfl hf (fun k hk => absurd hk (Nat.not_lt_zero k)) hg Tx.ck_l_text_right rfl rfl rfl (fun β ds Q h => tr_ar β ds Q h) fun β ds Q h => tr_ev rfl rfl rfl rfl rfl rfl rfl rfl rfl rfl rfl rfl rfl rfl h
theorem s40 {h : Heap} (X : K.In h) (G : h.Ns mainGlobals mg) (c0 : He.SaysX Tx.fas Tx.fns Tx.ts [] Tx.exB w h K) (tx : TxtOk mg base) {lv : Nat} (hf : FnsOk (tab (P, w)) P w K mg base lv 40 (fun k => Tx.fnNames.getD k "") (fun k => Tx.fnGd.getD k false)) : FOk P w K mg base (Tx.fnGd.getD 40 false) (lv + 1) "_law_odd_kinds_right" ((tab (P, w)).fn 40) := by
  have c := c0.t.d
  have hg := gls_ (P := P) X G c0
  have tm := tab_mono (P, w)
  obtain ⟨fd, F⟩ := c.def_ 40 (d := Tx.dd_l_odd_kinds_right) rfl
  have hm : mg "_law_odd_kinds_right" = some (.ref (He.ga K "_law_odd_kinds_right")) := He.glo_ok X G (c.fact 40 (f := .glo "_law_odd_kinds_right") rfl)
  exact fok_of (S := Tx.sc_l_odd_kinds_right) hm F (fun _ _ _ _ _ _ us hl => match us, hl with | [_, _], _ => rfl) Tx.fs_l_odd_kinds_right tm rfl tx rfl hf (fun k hk => absurd hk (Nat.not_lt_zero k)) hg Tx.ck_l_odd_kinds_right rfl rfl rfl (fun β ds Q h => okr_ar β ds Q h) fun β ds Q h => okr_ev rfl rfl rfl rfl h
theorem FnsOk.snoc {T : Tb} {lv lv' n : Nat} {fn : Nat → Str} {fg : Nat → Bool} (h : FnsOk T P w K mg base lv n fn fg) (f : FOk P w K mg base (fg n) lv' (fn n) (T.fn n)) (hl : lv ≤ lv') : FnsOk T P w K mg base lv' (n + 1) fn fg := fun j hj => by
  by_cases e : j = n
  · subst e
    exact f
  · obtain ⟨f', fd', ps', h1, h2, h3, h4⟩ := h j (by omega)
    exact ⟨f', fd', ps', h1, h2, h3, h4.mono hl⟩
theorem FnsOk.sub {T : Tb} {lv n m : Nat} {fn : Nat → Str} {fg : Nat → Bool} (h : FnsOk T P w K mg base lv n fn fg) (hl : m ≤ n) : FnsOk T P w K mg base lv m fn fg := fun j hj => h j (Nat.lt_of_lt_of_le hj hl)
theorem facts {h : Heap} {f : Addr} (X : K.In h) (G : h.Ns mainGlobals mg) (hfa : mg ("law" : Str) = some (.ref f)) (c0 : He.SaysX Tx.fas Tx.fns Tx.ts [] Tx.exB w h K) :
    ∃ fd : FuncData, (∀ (s : Shared) (v : Value), BindsTo s fd ⟨[v], []⟩ [("_law_script", v)]) ∧ ∀ base : Heap, K.In base → base.Ns mainGlobals mg → (∃ o, base.get? sysModules = some o) → FnG P w K mg base true 154 f fd ["_law_script"] (lawSp K []) := by
  have c := c0.t.d
  obtain ⟨fd, F⟩ := c.def_ 41 (d := Tx.dd_law) rfl
  have e := hfa.symm.trans (He.glo_ok X G (c.fact 41 (f := .glo "law") rfl))
  cases e
  have b := FunD.bindsA (ps := ["_law_script"]) F fun _ _ _ _ _ _ us hl => match us, hl with | [_], _ => rfl
  refine ⟨fd, fun s v => b s [v] rfl, fun base _ _ hs => ?_⟩
  have tx : TxtOk mg base := ⟨fun x hx => He.free_ok X G (c.facts (f := .free x) (List.mem_append_right _ (List.mem_append_right _ (List.mem_map.mpr ⟨x, hx, rfl⟩)))), hs⟩
  have f0 : FnsOk (tab (P, w)) P w K mg base 0 0 (fun k => Tx.fnNames.getD k "") (fun k => Tx.fnGd.getD k false) := fun j hj => absurd hj (Nat.not_lt_zero j)
  have f1 := FnsOk.snoc f0 (s0 X G c0 tx f0) (by decide)
  have f2 := FnsOk.snoc f1 (s1 X G c0 tx f1) (by decide)
  have f3 := FnsOk.snoc f2 (s2 X G c0 tx f2) (by decide)
  have f4 := FnsOk.snoc f3 (s3 X G c0 tx f3) (by decide)
  have f5 := FnsOk.snoc f4 (s4 X G c0 tx f4) (by decide)
  have f6 := FnsOk.snoc f5 (s5 X G c0 tx f5) (by decide)
  have f7 := FnsOk.snoc f6 (s6 X G c0 tx f6) (by decide)
  have f8 := FnsOk.snoc f7 (s7 X G c0 tx f7) (by decide)
  have f9 := FnsOk.snoc f8 (s8 X G c0 tx f8) (by decide)
  have f10 := FnsOk.snoc f9 (s9 X G c0 tx f9) (by decide)
  have f11 := FnsOk.snoc f10 (s10 X G c0 tx f10) (by decide)
  have f12 := FnsOk.snoc f11 (s11 X G c0 tx (FnsOk.sub (m := 11) f11 (by decide))) (by decide)
  have f13 := FnsOk.snoc f12 (s12 X G c0 tx f12) (by decide)
  have f14 := FnsOk.snoc f13 (s13 X G c0 tx (FnsOk.sub (m := 13) f13 (by decide))) (by decide)
  have f15 := FnsOk.snoc f14 (s14 X G c0 tx f14) (by decide)
  have f16 := FnsOk.snoc f15 (s15 X G c0 tx f15) (by decide)
  have f17 := FnsOk.snoc f16 (s16 X G c0 tx f16) (by decide)
  have f18 := FnsOk.snoc f17 (s17 X G c0 tx f17) (by decide)
  have f19 := FnsOk.snoc f18 (s18 X G c0 tx f18) (by decide)
  have f20 := FnsOk.snoc f19 (s19 X G c0 tx f19) (by decide)
  have f21 := FnsOk.snoc f20 (s20 X G c0 tx f20) (by decide)
  have f22 := FnsOk.snoc f21 (s21 X G c0 tx f21) (by decide)
  have f23 := FnsOk.snoc f22 (s22 X G c0 tx f22) (by decide)
  have f24 := FnsOk.snoc f23 (s23 X G c0 tx f23) (by decide)
  have f25 := FnsOk.snoc f24 (s24 X G c0 tx f24) (by decide)
  have f26 := FnsOk.snoc f25 (s25 X G c0 tx f25) (by decide)
  have f27 := FnsOk.snoc f26 (s26 X G c0 tx f26) (by decide)
  have f28 := FnsOk.snoc f27 (s27 X G c0 tx f27) (by decide)
  have f29 := FnsOk.snoc f28 (s28 X G c0 tx f28) (by decide)
  have f30 := FnsOk.snoc f29 (s29 X G c0 tx (FnsOk.sub (m := 29) f29 (by decide))) (by decide)
  have f31 := FnsOk.snoc f30 (s30 X G c0 tx f30) (by decide)
  have f32 := FnsOk.snoc f31 (s31 X G c0 tx f31) (by decide)
  have f33 := FnsOk.snoc f32 (s32 X G c0 tx f32) (by decide)
  have f34 := FnsOk.snoc f33 (s33 X G c0 tx f33) (by decide)
  have f35 := FnsOk.snoc f34 (s34 X G c0 tx f34) (by decide)
  have f36 := FnsOk.snoc f35 (s35 X G c0 tx f35) (by decide)
  have f37 := FnsOk.snoc f36 (s36 X G c0 tx f36) (by decide)
  have f38 := FnsOk.snoc f37 (s37 X G c0 tx f37) (by decide)
  have f39 := FnsOk.snoc f38 (s38 X G c0 tx f38) (by decide)
  have f40 := FnsOk.snoc f39 (s39 X G c0 tx f39) (by decide)
  have f41 := FnsOk.snoc f40 (s40 X G c0 tx f40) (by decide)
  obtain ⟨oc, od, dV, kV, doc, pm, an, cdv, ct, osl, rfl, lk, hcd, _, _⟩ := F.ex
  exact lawG (S := Tx.sc_law) (T := tab (P, w)) (kb := 20) (n := 5) lk hcd Tx.fs_law rfl (tab_mono _) rfl tx rfl f41 (fun k hk => absurd hk (Nat.not_lt_zero k)) (gls_ X G c0) rfl (by decide +kernel) rfl Tx.ck_law rfl rfl rfl (fun a ns b hb => law_ev rfl rfl rfl rfl rfl rfl a ns b)
end
end K79
open PySem PySem.W PySem.Calls PyProof.Rows
set_option maxRecDepth 100000 in
set_option maxHeartbeats 0 in
theorem PySem.Challenge.cw_fourfaces_k79_mends_judged_holds : PySem.Challenge.rw_fourfaces_k79_mends_judged.Holds := by
  w_on; o_law
  refine HandSHeadRun.head_any (r := OpenLaw.row PySem.Challenge.rw_fourfaces_k79_mends_judged) (q := view (OpenLaw.row PySem.Challenge.rw_fourfaces_k79_mends_judged).prog [51]) (H := Tx.hk) (ob := Tx.ob) (M := 7120) (loose := Tx.loose) (d := HandSHeadRun.topDef (OpenLaw.row PySem.Challenge.rw_fourfaces_k79_mends_judged).prog 51) (kwd := []) Tx.ob_eq
    (by kernel_rfl) (fun s => by kernel_rfl) Tx.run (by kernel_rfl) (by kernel_rfl) (by kernel_rfl) (by rfl) (by first | assumption | decide +kernel) (by decide +kernel) ⟨rfl, rfl, rfl, rfl, rfl, by decide +kernel⟩ ?hw ?hc
  case hw => w_witness2
  case hc =>
    refine DI.walkT (l := PySem.Challenge.rw_fourfaces_k79_mends_judged) (n := 63) (k := 154) (x := "_law_script") rfl (by decide) (by kernel_rfl) ⟨rfl, by decide, by decide⟩ ?F
    intro w mg fa h K KX c G hmg0
    have hmg : mg ("law" : PySem.Str) = some (.ref fa) := by
      have e : (HandSHeadRun.topDef (OpenLaw.row PySem.Challenge.rw_fourfaces_k79_mends_judged).prog 51).name = ("law" : PySem.Str) := by kernel_rfl
      rw [← e]
      exact hmg0
    obtain ⟨fd, hb, hF⟩ := K79.facts (P := (PySem.Challenge.rw_fourfaces_k79_mends_judged).prog) (w := w) KX G hmg c
    exact ⟨fd, DI.lawSp K [], hb, fun H a ns hl hS => ⟨a, ns, rfl, hS, (fun p hp => absurd hp List.not_mem_nil), fun _ => rfl⟩, hF⟩

