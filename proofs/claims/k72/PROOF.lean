import PyProof.Rows.All
import Wide.All
import OpenK.AllK
import Wide.FinOn
import HandS.ForMost
import HandS.ForExc
import HandS.Flow
import HandS.IsInst
import HandS.Wide
import HandS.Gcd
import HandS.TupAny
import HandS.TupMul
import HandS.CallSlots
import HandS.WordsExc
import HandS.Walk
import HandS.Deep
import HandS.Defaults
import HandS.WideBits
import KE.KTupSum
import KE.GoesMore
import HandS.Zip
import HandS.Style
import KE.DataMinMax
import HandS.CallLocal
import HandS.Dict
import KE.KRevSl
import HandS.EndBits
import HandS.Star
import HandS.SortInts
import HandS.ExcValue
import HandS.ExcOwn
import HandS.Conv
import KE.GoesEnum
import PySem.Challenge.RW_levelruns_k72_whole_flood_levels
set_option Elab.async false
set_option linter.all false
set_option maxRecDepth 100000
set_option maxHeartbeats 4000000
/-! FL: a reading of defs as plain functions over plain data. Part 1: data, states, the monad, expressions. -/
namespace FL
open PySem PySem.Spec L2
/-! ### data -/
inductive D where
  | non | bl (b : Bool) | int (i : Int) | str (x : Str) | tup (ds : List D) | lst (ds : List D) | scr (ds : List D) | dct (kvs : List (Key × D)) | opq (v : V) | dfn (x : Str)
instance : Inhabited D := ⟨.non⟩
mutual
inductive Rep (K : PySem.W.Frag) (F : Hp) : V → D → Prop
  | non : Rep K F .non .non
  | bl (b : Bool) : Rep K F (.bl b) (.bl b)
  | int (i : Int) : Rep K F (.int i) (.int i)
  | str (x : Str) : Rep K F (.str x) (.str x)
  | tup {a : Addr} {vs : List V} {ds : List D} : SqT K F a vs → RepL K F vs ds → Rep K F (.ref a) (.tup ds)
  | lst {a : Addr} {vs : List V} {ds : List D} : F a = some (.lst vs) → RepL K F vs ds → Rep K F (.ref a) (.lst ds)
  | scr {a : Addr} {vs : List V} {ds : List D} : SqL K F a vs → RepL K F vs ds → Rep K F (.ref a) (.scr ds)
  | dct {a : Addr} {kvs : List (Key × V)} {kds : List (Key × D)} : F a = some (.dK kvs) → RepK K F kvs kds → Rep K F (.ref a) (.dct kds)
  | opq (v : V) : Rep K F v (.opq v)
  | dfn {x : Str} {f : Addr} : PySem.W.nsIn K mainGlobals x = some (some (.ref f)) → Rep K F (.ref f) (.dfn x)
inductive RepL (K : PySem.W.Frag) (F : Hp) : List V → List D → Prop
  | nil : RepL K F [] []
  | cons {v : V} {vs : List V} {d : D} {ds : List D} : Rep K F v d → RepL K F vs ds → RepL K F (v :: vs) (d :: ds)
inductive RepK (K : PySem.W.Frag) (F : Hp) : List (Key × V) → List (Key × D) → Prop
  | nil : RepK K F [] []
  | cons {k : Key} {v : V} {vs : List (Key × V)} {d : D} {ds : List (Key × D)} : Rep K F v d → RepK K F vs ds → RepK K F ((k, v) :: vs) ((k, d) :: ds)
end
theorem sameT {K : PySem.W.Frag} {H H' : Hp} {a : Addr} {xs : List V} (e : Same H H') (h : SqT K H a xs) : SqT K H' a xs := by
  cases h with
  | inl h =>
    cases h with
    | inl q => exact Or.inl (Or.inl (e a _ q))
    | inr q => exact Or.inl (Or.inr (q.elim fun o z => ⟨o, e a _ z⟩))
  | inr h => exact Or.inr h
mutual
theorem Rep.mono {K : PySem.W.Frag} {F F' : Hp} (e : Same F F') : ∀ {v : V} {d : D}, Rep K F v d → Rep K F' v d
  | _, _, .non => .non
  | _, _, .bl b => .bl b
  | _, _, .int i => .int i
  | _, _, .str x => .str x
  | _, _, .tup h r => .tup (sameT e h) (RepL.mono e r)
  | _, _, .lst h r => .lst (e _ _ h) (RepL.mono e r)
  | _, _, .scr h r => .scr (e.seq h) (RepL.mono e r)
  | _, _, .dct h r => .dct (e _ _ h) (RepK.mono e r)
  | _, _, .opq v => .opq v
  | _, _, .dfn h => .dfn h
theorem RepL.mono {K : PySem.W.Frag} {F F' : Hp} (e : Same F F') : ∀ {vs : List V} {ds : List D}, RepL K F vs ds → RepL K F' vs ds
  | _, _, .nil => .nil
  | _, _, .cons h r => .cons (Rep.mono e h) (RepL.mono e r)
theorem RepK.mono {K : PySem.W.Frag} {F F' : Hp} (e : Same F F') : ∀ {vs : List (Key × V)} {ds : List (Key × D)}, RepK K F vs ds → RepK K F' vs ds
  | _, _, .nil => .nil
  | _, _, .cons h r => .cons (Rep.mono e h) (RepK.mono e r)
end
theorem RepL.length {K : PySem.W.Frag} {F : Hp} : ∀ {vs : List V} {ds : List D}, RepL K F vs ds → vs.length = ds.length
  | _, _, .nil => rfl
  | _, _, .cons _ r => congrArg (· + 1) (RepL.length r)
theorem RepL.get {K : PySem.W.Frag} {F : Hp} : ∀ {vs : List V} {ds : List D} {i : Nat} {d : D}, RepL K F vs ds → ds[i]? = some d → ∃ v, vs[i]? = some v ∧ Rep K F v d
  | _, _, _, _, .nil, h => by cases h
  | _, _, 0, d, .cons (v := v) h _, e => by
    have e' : _ = d := Option.some.inj e
    subst e'
    exact ⟨v, rfl, h⟩
  | _, _, i + 1, d, .cons _ r, e => RepL.get (i := i) r e
theorem RepL.get' {K : PySem.W.Frag} {F : Hp} : ∀ {vs : List V} {ds : List D} {i : Nat} {v : V}, RepL K F vs ds → vs[i]? = some v → ∃ d, ds[i]? = some d ∧ Rep K F v d
  | _, _, _, _, .nil, h => by cases h
  | _, _, 0, v, .cons (d := d) h _, e => by
    have e' : _ = v := Option.some.inj e
    subst e'
    exact ⟨d, rfl, h⟩
  | _, _, i + 1, v, .cons _ r, e => RepL.get' (i := i) r e
theorem RepL.app {K : PySem.W.Frag} {F : Hp} : ∀ {vs us : List V} {ds es : List D}, RepL K F vs ds → RepL K F us es → RepL K F (vs ++ us) (ds ++ es)
  | _, _, _, _, .nil, q => q
  | _, _, _, _, .cons h r, q => .cons h (RepL.app r q)
theorem RepL.take {K : PySem.W.Frag} {F : Hp} : ∀ {vs : List V} {ds : List D} (n : Nat), RepL K F vs ds → RepL K F (vs.take n) (ds.take n)
  | _, _, 0, _ => .nil
  | _, _, _ + 1, .nil => .nil
  | _, _, n + 1, .cons h r => .cons h (RepL.take n r)
theorem RepL.drop {K : PySem.W.Frag} {F : Hp} : ∀ {vs : List V} {ds : List D} (n : Nat), RepL K F vs ds → RepL K F (vs.drop n) (ds.drop n)
  | _, _, 0, r => r
  | _, _, _ + 1, .nil => .nil
  | _, _, n + 1, .cons _ r => RepL.drop n r
theorem RepL.rev {K : PySem.W.Frag} {F : Hp} : ∀ {vs : List V} {ds : List D}, RepL K F vs ds → RepL K F vs.reverse ds.reverse
  | _, _, .nil => .nil
  | _, _, .cons (v := v) (d := d) h r => by
    rw [List.reverse_cons, List.reverse_cons]
    exact RepL.app (RepL.rev r) (.cons h .nil)
theorem RepL.set {K : PySem.W.Frag} {F : Hp} {v : V} {d : D} (h : Rep K F v d) : ∀ {vs : List V} {ds : List D} (n : Nat), RepL K F vs ds → RepL K F (vs.set n v) (ds.set n d)
  | _, _, _, .nil => .nil
  | _, _, 0, .cons _ r => .cons h r
  | _, _, n + 1, .cons q r => .cons q (RepL.set h n r)
/-! ### states -/
/-- own: made here; io: a caller's, changed here -/
inductive CK where | own | io
  deriving DecidableEq
inductive Ent where | no | val (d : D) | cel (k : CK) (ds : List D)
/-- the frozen heap, the heap, the slots, the plain slots -/
structure Cf where
  F : Hp
  H : Hp
  s : St
  r : List Ent
/-- x's slot i is the list at p that may change -/
def CelAt (x : Cf) (i : Nat) (k : CK) (p : Addr) : Prop := (∃ ds, x.r[i]? = some (.cel k ds)) ∧ x.s[i]? = some (some (.ref p))
def CelRep (K : PySem.W.Frag) (x : Cf) (p : Addr) (ds : List D) : Prop := ∃ us, RepL K x.F us ds ∧ x.H p = some (.lst us) ∧ x.F p = none
structure RSt (K : PySem.W.Frag) (x : Cf) : Prop where
  sub : Same x.F x.H
  len : x.s.length = x.r.length
  val : ∀ (i : Nat) (d : D), x.r[i]? = some (.val d) → ∃ v, x.s[i]? = some (some v) ∧ Rep K x.F v d
  cel : ∀ (i : Nat) (k : CK) (ds : List D), x.r[i]? = some (.cel k ds) → ∃ p, x.s[i]? = some (some (.ref p)) ∧ CelRep K x p ds
  dis : ∀ (i j : Nat) (k l : CK) (p : Addr), CelAt x i k p → CelAt x j l p → i = j
/-- what a step leaves: T: the slots that it may touch -/
structure Fr (T : List Nat) (x y : Cf) : Prop where
  ln : y.r.length = x.r.length
  ff : Same x.F y.F
  dm : ∀ a, y.H a = none → x.H a = none
  nw : ∀ a o, y.F a = some o → (∃ u, x.F a = some u) ∨ x.H a = none ∨ ∃ i, CelAt x i .own a
  hp : ∀ a o, x.H a = some o → (∀ i ∈ T, ∀ k, ¬ CelAt x i k a) → y.H a = some o
  cc : ∀ i k p, CelAt y i k p → (k = .own ∧ x.H p = none) ∨ CelAt x i k p
  un : ∀ i, i ∉ T → y.r[i]? = x.r[i]? ∧ y.s[i]? = x.s[i]?
theorem Fr.refl (T : List Nat) (x : Cf) : Fr T x x := ⟨rfl, Same.refl _, fun _ h => h, fun a o h => .inl ⟨o, h⟩, fun _ _ h _ => h, fun _ _ _ h => .inr h, fun _ _ => ⟨rfl, rfl⟩⟩
theorem Fr.trans {T : List Nat} {x y z : Cf} (a : Fr T x y) (b : Fr T y z) : Fr T x z where
  ln := b.ln.trans a.ln
  ff := a.ff.trans b.ff
  dm := fun p h => a.dm p (b.dm p h)
  nw := fun p o h => by
    rcases b.nw p o h with ⟨u, q⟩ | q | ⟨i, q⟩
    · exact a.nw p u q
    · exact .inr (.inl (a.dm p q))
    · rcases a.cc i _ p q with ⟨_, q⟩ | q
      · exact .inr (.inl q)
      · exact .inr (.inr ⟨i, q⟩)
  hp := fun p o h n => b.hp p o (a.hp p o h n) fun i hi k q => by
    rcases a.cc i k p q with ⟨_, z⟩ | z
    · rw [h] at z; cases z
    · exact n i hi k z
  cc := fun i k p h => by
    rcases b.cc i k p h with ⟨e, q⟩ | q
    · exact .inl ⟨e, a.dm p q⟩
    · exact a.cc i k p q
  un := fun i hi => ⟨(b.un i hi).1.trans (a.un i hi).1, (b.un i hi).2.trans (a.un i hi).2⟩
theorem Fr.mono {S T : List Nat} (h : ∀ i ∈ S, i ∈ T) {x y : Cf} (f : Fr S x y) : Fr T x y :=
  ⟨f.ln, f.ff, f.dm, f.nw, fun a o e n => f.hp a o e fun i hi => n i (h i hi), f.cc, fun i hi => f.un i fun z => hi (h i z)⟩
/-- new things alone -/
structure Ext (x y : Cf) : Prop where
  s : y.s = x.s
  r : y.r = x.r
  ff : Same x.F y.F
  hh : Same x.H y.H
  sub : Same y.F y.H
  nw : ∀ a o, y.F a = some o → (∃ u, x.F a = some u) ∨ x.H a = none
theorem Ext.refl {K : PySem.W.Frag} {x : Cf} (h : RSt K x) : Ext x x := ⟨rfl, rfl, Same.refl _, Same.refl _, h.sub, fun a o e => .inl ⟨o, e⟩⟩
theorem Same.dm {H H' : Hp} (e : Same H H') (a : Addr) (h : H' a = none) : H a = none := e.free h
theorem Ext.fr {x y : Cf} (e : Ext x y) (T : List Nat) : Fr T x y :=
  ⟨by rw [e.r], e.ff, fun a h => e.hh.free h, fun a o h => (e.nw a o h).elim .inl fun q => .inr (.inl q), fun a o h _ => e.hh a o h, fun i k p h => .inr (by unfold CelAt at h ⊢; rw [e.s, e.r] at h; exact h), fun i _ => by rw [e.s, e.r]; exact ⟨rfl, rfl⟩⟩
theorem Ext.rst {K : PySem.W.Frag} {x y : Cf} (e : Ext x y) (h : RSt K x) : RSt K y where
  sub := e.sub
  len := by rw [e.s, e.r]; exact h.len
  val := fun i d q => by
    rw [e.r] at q
    obtain ⟨v, h1, h2⟩ := h.val i d q
    exact ⟨v, by rw [e.s]; exact h1, h2.mono e.ff⟩
  cel := fun i k ds q => by
    rw [e.r] at q
    obtain ⟨p, h1, us, h2, h3, h4⟩ := h.cel i k ds q
    refine ⟨p, by rw [e.s]; exact h1, us, h2.mono e.ff, e.hh _ _ h3, ?_⟩
    cases w : y.F p with
    | none => rfl
    | some o =>
      rcases e.nw p o w with ⟨u, g⟩ | g
      · rw [h4] at g; cases g
      · rw [h3] at g; cases g
  dis := fun i j k l p h1 h2 => h.dis i j k l p (by unfold CelAt at h1 ⊢; rw [e.s, e.r] at h1; exact h1) (by unfold CelAt at h2 ⊢; rw [e.s, e.r] at h2; exact h2)
theorem Ext.trans {x y z : Cf} (a : Ext x y) (b : Ext y z) : Ext x z :=
  ⟨b.s.trans a.s, b.r.trans a.r, a.ff.trans b.ff, a.hh.trans b.hh, b.sub, fun p o h => by
    rcases b.nw p o h with ⟨u, q⟩ | q
    · exact a.nw p u q
    · exact .inr (a.hh.free q)⟩
theorem same_upd {H : Hp} {p : Addr} {o : HO} (h : H p = none) : Same H (upd H p o) := fun b u e => by rw [upd_ne (ne_of_none e h)]; exact e
/-- a new object, frozen at once -/
theorem Ext.new {K : PySem.W.Frag} {x : Cf} (h : RSt K x) {p : Addr} {o : HO} (hp : x.H p = none) : Ext x ⟨upd x.F p o, upd x.H p o, x.s, x.r⟩ := by
  have fp : x.F p = none := h.sub.free hp
  refine ⟨rfl, rfl, same_upd fp, same_upd hp, fun b u e => ?_, fun b u e => ?_⟩
  · by_cases hb : b = p
    · subst hb
      exact (show upd x.H b o b = some u by rw [upd_same]; exact (by rw [← e]; exact upd_same.symm))
    · show upd x.H p o b = some u
      rw [upd_ne hb]
      exact h.sub b u (by rw [← e]; exact (upd_ne hb).symm)
  · by_cases hb : b = p
    · subst hb; exact .inr hp
    · exact .inl ⟨u, by rw [← e]; exact (upd_ne hb).symm⟩
/-- a new object, not frozen -/
theorem Ext.raw {K : PySem.W.Frag} {x : Cf} (h : RSt K x) {p : Addr} {o : HO} (hp : x.H p = none) : Ext x ⟨x.F, upd x.H p o, x.s, x.r⟩ :=
  ⟨rfl, rfl, Same.refl _, same_upd hp, h.sub.trans (same_upd hp), fun _ u e => .inl ⟨u, e⟩⟩
/-! ### the monad -/
inductive R (α : Type) where
  | ok (a : α) (r : List Ent) | exc (c : Str) (pl : Option (Str × D)) (r : List Ent) | bad
abbrev M (α : Type) := List Ent → R α
def mP {α : Type} (a : α) : M α := fun r => .ok a r
def mB {α β : Type} (m : M α) (k : α → M β) : M β := fun r => match m r with
  | .ok a r' => k a r'
  | .exc c p r' => .exc c p r'
  | .bad => .bad
def mO {α : Type} (o : Option α) : M α := fun r => match o with
  | some a => .ok a r
  | none => .bad
/-- an exception of the class that the module names c, with its one attribute -/
def ExcRep (K : PySem.W.Frag) (mg : Str → Option Value) (y : Cf) (c : Str) (pl : Option (Str × D)) (cls : Value) (dx : Option Addr) : Prop :=
  mg c = some cls ∧ match pl with
    | none => True
    | some (n, d) => ∃ p v, dx = some p ∧ y.H p = some (.xd [(n, v)]) ∧ Rep K y.F v d
def Post {α : Type} (K : PySem.W.Frag) (mg : Str → Option Value) (T : List Nat) (W : WX) (x : Cf) (r : R α) (Q : α → Cf → Prop) : Prop := match r with
  | .ok a ρ => ∀ y : Cf, y.r = ρ → Fr T x y → RSt K y → Q a y
  | .exc c pl ρ => ∀ (y : Cf) (cls : Value) (dx : Option Addr), y.r = ρ → Fr T x y → RSt K y → ExcRep K mg y c pl cls dx → W cls dx y.s y.H
  | .bad => False
theorem Post.shift {α : Type} {K : PySem.W.Frag} {mg : Str → Option Value} {T : List Nat} {W : WX} {x y : Cf} {r : R α} {Q : α → Cf → Prop} (f : Fr T x y) (h : Post K mg T W x r Q) : Post K mg T W y r Q := by
  cases r with
  | ok a ρ => exact fun z e g s => h z e (f.trans g) s
  | exc c pl ρ => exact fun z cls dx e g s w => h z cls dx e (f.trans g) s w
  | bad => exact h
theorem Post.mono {α : Type} {K : PySem.W.Frag} {mg : Str → Option Value} {T : List Nat} {W : WX} {x : Cf} {r : R α} {Q Q' : α → Cf → Prop} (h : Post K mg T W x r Q) (i : ∀ a y, Fr T x y → RSt K y → Q a y → Q' a y) : Post K mg T W x r Q' := by
  cases r with
  | ok a ρ => exact fun z e g s => i a z g s (h z e g s)
  | exc c pl ρ => exact h
  | bad => exact h
/-- from a state to one with new things alone -/
theorem Post.here {α : Type} {K : PySem.W.Frag} {mg : Str → Option Value} {T : List Nat} {W : WX} {x y : Cf} {a : α} {Q : α → Cf → Prop} (h : Post K mg T W x (.ok a x.r) Q) (e : Ext x y) (s : RSt K x) : Q a y := h y e.r (e.fr T) (e.rst s)
/-! ### expressions -/
section
variable (X : Cx) (W : WX) (T : List Nat)
def EvE (te : TE) (f : M D) : Prop := ∀ (x : Cf) (Q : VK), RSt X.K x → Post X.K X.mg T W x (f x.r) (fun d y => y.s = x.s → ∀ v, Rep X.K y.F v d → Q v y.H) → te x.s x.H Q
def EvT (tt : TT) (f : M Bool) : Prop := ∀ (x : Cf) (Q : Bool → Hp → Prop), RSt X.K x → Post X.K X.mg T W x (f x.r) (fun b y => y.s = x.s → Q b y.H) → tt x.s x.H Q
/-- a new list -/
def FreshAt (K : PySem.W.Frag) (y : Cf) (p : Addr) (us : List V) (ds : List D) : Prop := y.H p = some (.lst us) ∧ y.F p = none ∧ RepL K y.F us ds
def EvL (te : TE) (f : M (List D)) : Prop := ∀ (x : Cf) (Q : VK), RSt X.K x →
  Post X.K X.mg T W x (f x.r) (fun ds y => y.s = x.s → ∀ p us, FreshAt X.K y p us ds → x.H p = none → (∀ i k, ¬ CelAt y i k p) → Q (.ref p) y.H) → te x.s x.H Q
inductive Arg where | val (d : D) | late (j : Nat)
inductive ArgR (K : PySem.W.Frag) (y : Cf) : V → Arg → Prop
  | val {v : V} {d : D} : Rep K y.F v d → ArgR K y v (.val d)
  | late {v : V} {j : Nat} : y.s[j]? = some (some v) → ArgR K y v (.late j)
inductive ArgsR (K : PySem.W.Frag) (y : Cf) : List V → List Arg → Prop
  | nil : ArgsR K y [] []
  | cons {v : V} {vs : List V} {a : Arg} {as : List Arg} : ArgR K y v a → ArgsR K y vs as → ArgsR K y (v :: vs) (a :: as)
def EvA (ta : TA) (f : M (List Arg)) : Prop := ∀ (x : Cf) (Q : List V → Hp → Prop), RSt X.K x → Post X.K X.mg T W x (f x.r) (fun as y => y.s = x.s → ∀ vs, ArgsR X.K y vs as → Q vs y.H) → ta x.s x.H Q
structure SE (e : Expr) (f : M D) : Prop where
  ex : ∃ te, PE X e te ∧ EvE X W T te f
structure ST (e : Expr) (f : M Bool) : Prop where
  ex : ∃ te, PT X e te ∧ EvT X W T te f
structure SL (e : Expr) (f : M (List D)) : Prop where
  ex : ∃ te, PE X e te ∧ EvL X W T te f
structure SA (es : List Expr) (f : M (List Arg)) : Prop where
  ex : ∃ ta, PA X es ta ∧ EvA X W T ta f
end
section
variable {X : Cx} {W : WX} {T : List Nat}
theorem ArgR.shift {K : PySem.W.Frag} {x y : Cf} {v : V} {a : Arg} (f : Same x.F y.F) (hs : y.s = x.s) (h : ArgR K x v a) : ArgR K y v a := by
  cases h with
  | val r => exact .val (r.mono f)
  | late q => exact .late (by rw [hs]; exact q)
/-- the first part runs, then what follows -/
theorem EvE.bind {α : Type} {te : TE} {f : M D} {k : D → M α} {x : Cf} {Q : VK} {Qf : α → Cf → Prop} (h : EvE X W T te f) (s : RSt X.K x) (p : Post X.K X.mg T W x (mB f k x.r) Qf)
    (n : ∀ d y, Fr T x y → RSt X.K y → y.s = x.s → (∀ v, Rep X.K y.F v d → Post X.K X.mg T W y (k d y.r) Qf → Q v y.H)) : te x.s x.H Q := by
  refine h x Q s ?_
  cases e : f x.r with
  | ok d ρ =>
    intro y hy fr sy hs v hv
    refine n d y fr sy hs v hv (Post.shift fr ?_)
    have e2 : mB f k x.r = k d y.r := by unfold mB; rw [e, hy]
    rw [← e2]; exact p
  | exc c pl ρ =>
    have e2 : mB f k x.r = .exc c pl ρ := by unfold mB; rw [e]
    rw [e2] at p; exact p
  | bad =>
    have e2 : mB f k x.r = .bad := by unfold mB; rw [e]
    rw [e2] at p; exact p
theorem EvT.bind {α : Type} {te : TT} {f : M Bool} {k : Bool → M α} {x : Cf} {Q : Bool → Hp → Prop} {Qf : α → Cf → Prop} (h : EvT X W T te f) (s : RSt X.K x) (p : Post X.K X.mg T W x (mB f k x.r) Qf)
    (n : ∀ d y, Fr T x y → RSt X.K y → y.s = x.s → Post X.K X.mg T W y (k d y.r) Qf → Q d y.H) : te x.s x.H Q := by
  refine h x Q s ?_
  cases e : f x.r with
  | ok d ρ =>
    intro y hy fr sy hs
    refine n d y fr sy hs (Post.shift fr ?_)
    have e2 : mB f k x.r = k d y.r := by unfold mB; rw [e, hy]
    rw [← e2]; exact p
  | exc c pl ρ =>
    have e2 : mB f k x.r = .exc c pl ρ := by unfold mB; rw [e]
    rw [e2] at p; exact p
  | bad =>
    have e2 : mB f k x.r = .bad := by unfold mB; rw [e]
    rw [e2] at p; exact p
theorem EvA.bind {α : Type} {te : TA} {f : M (List Arg)} {k : List Arg → M α} {x : Cf} {Q : List V → Hp → Prop} {Qf : α → Cf → Prop} (h : EvA X W T te f) (s : RSt X.K x) (p : Post X.K X.mg T W x (mB f k x.r) Qf)
    (n : ∀ d y, Fr T x y → RSt X.K y → y.s = x.s → (∀ vs, ArgsR X.K y vs d → Post X.K X.mg T W y (k d y.r) Qf → Q vs y.H)) : te x.s x.H Q := by
  refine h x Q s ?_
  cases e : f x.r with
  | ok d ρ =>
    intro y hy fr sy hs vs hv
    refine n d y fr sy hs vs hv (Post.shift fr ?_)
    have e2 : mB f k x.r = k d y.r := by unfold mB; rw [e, hy]
    rw [← e2]; exact p
  | exc c pl ρ =>
    have e2 : mB f k x.r = .exc c pl ρ := by unfold mB; rw [e]
    rw [e2] at p; exact p
  | bad =>
    have e2 : mB f k x.r = .bad := by unfold mB; rw [e]
    rw [e2] at p; exact p
end
end FL
namespace FL
open PySem PySem.Spec L2
section
variable {X : Cx} {W : WX} {T : List Nat}
/-! ### names, constants -/
def xVar (i : Nat) : M D := fun r => match r[i]? with
  | some (.val d) => .ok d r
  | _ => .bad
theorem se_var (i : Nat) {x : Str} {pos : Pos} (hN : X.N[i]? = some x := by rfl) (hv : Vis X.env.scope x := by first | exact Or.inl rfl | exact Or.inr (Or.inl rfl) | exact Or.inr (Or.inr rfl)) (hd : (x == ("__debug__" : Str)) = false := by decide)
    (hc : (x == ("__classdict__" : Str)) = false := by decide) : SE X W T (.Name x pos) (xVar i) := by
  refine ⟨_, pe_var (i := i) hN hv hd hc, fun x Q s p => ?_⟩
  unfold xVar at p
  split at p
  · rename_i d e
    obtain ⟨v, h1, h2⟩ := s.val i d e
    exact ⟨v, h1, p x rfl (Fr.refl T x) s rfl v h2⟩
  · exact p.elim
def xC (d : D) : M D := mP d
theorem ev_const {v : V} {d : D} (h : ∀ F, Rep X.K F v d) : EvE X W T (tC v) (xC d) := fun x Q s p => p x rfl (Fr.refl T x) s rfl v (h _)
theorem se_int {i : Int} {j pos} : SE X W T (.Constant (.int i) j pos) (xC (.int i)) := ⟨_, pe_int, ev_const fun _ => .int i⟩
theorem se_bl {b : Bool} {j pos} : SE X W T (.Constant (.bool b) j pos) (xC (.bl b)) := ⟨_, pe_bl, ev_const fun _ => .bl b⟩
theorem se_non {j pos} : SE X W T (.Constant .none j pos) (xC .non) := ⟨_, pe_non, ev_const fun _ => .non⟩
theorem se_str {x : Str} {j pos} : SE X W T (.Constant (.str x) j pos) (xC (.str x)) := ⟨_, pe_str, ev_const fun _ => .str x⟩
/-- a constant of the module -/
theorem se_glob {x : Str} {v : V} {u : Value} {d : D} {pos : Pos} (hm : X.mg x = some u) (r : RelV v u) (h : ∀ F, Rep X.K F v d) (hg : Gl X x := by rfl) (hd : (x == ("__debug__" : Str)) = false := by decide) : SE X W T (.Name x pos) (xC d) :=
  ⟨_, pe_glob hg hm r hd, ev_const h⟩
/-! ### two operands -/
/-- what a rule by values gives on data -/
def OpD (K : PySem.W.Frag) (r : R2) (op : D → D → Option D) : Prop :=
  ∀ (x : Cf) (v u : V) (d e z : D) (Q : VK), RSt K x → Rep K x.F v d → Rep K x.F u e → op d e = some z → (∀ y w, Ext x y → Rep K y.F w z → Q w y.H) → r v u x.H Q
def x2 (op : D → D → Option D) (a b : M D) : M D := mB a fun d => mB b fun e => mO (op d e)
theorem ev_op {r : R2} {op : D → D → Option D} {ta tb : TE} {fa fb : M D} (ho : OpD X.K r op) (ha : EvE X W T ta fa) (hb : EvE X W T tb fb) : EvE X W T (tOp r ta tb) (x2 op fa fb) := by
  intro x Q s p
  refine ha.bind s p fun d y f1 s1 e1 v hv p1 => ?_
  show tb x.s y.H _
  rw [← e1]
  refine hb.bind s1 p1 fun e z f2 s2 e2 u hu p2 => ?_
  cases q : op d e with
  | none => rw [q] at p2; exact p2.elim
  | some w =>
    rw [q] at p2
    exact ho z v u d e w Q s2 (hv.mono f2.ff) hu q fun y2 w2 ex hw => Post.here p2 ex s2 (ex.s.trans (e2.trans e1)) w2 hw
theorem se_op {op : Operator} {r : R2} {o : D → D → Option D} {a b : Expr} {pos : Pos} {fa fb : M D} (hr : OpR X (binaryOp op) r) (ho : OpD X.K r o) (ha : SE X W T a fa) (hb : SE X W T b fb) : SE X W T (.BinOp a op b pos) (x2 o fa fb) := by
  obtain ⟨ta, pa, ea⟩ := ha.ex
  obtain ⟨tb, pb, eb⟩ := hb.ex
  exact ⟨_, pe_op hr pa pb, ev_op ho ea eb⟩
theorem se_cmp {op : CmpOp} {r : R2} {o : D → D → Option D} {a b : Expr} {pos : Pos} {fa fb : M D} (hr : OpR X (compareOp op) r) (ho : OpD X.K r o) (ha : SE X W T a fa) (hb : SE X W T b fb) (hm : behindInMarks op b = false) : SE X W T (.Compare a [op] [b] pos) (x2 o fa fb) := by
  obtain ⟨ta, pa, ea⟩ := ha.ex
  obtain ⟨tb, pb, eb⟩ := hb.ex
  exact ⟨_, pe_cmpR hr pa pb hm, ev_op ho ea eb⟩
/-- the answer is a truth -/
def mT (m : M D) : M Bool := mB m fun d => match d with
  | .bl b => mP b
  | _ => fun _ => .bad
theorem ev_test {te : TE} {f : M D} (h : EvE X W T te f) : EvT X W T (tTest te) (mT f) := by
  intro x Q s p
  refine h.bind s p fun d y f1 s1 e1 v hv p1 => ?_
  cases d with
  | bl b =>
    cases hv
    exact ⟨b, rfl, p1 y rfl (Fr.refl T y) s1 (e1)⟩
  | _ => exact p1.elim
theorem st_cmp {op : CmpOp} {r : R2} {o : D → D → Option D} {a b : Expr} {pos : Pos} {fa fb : M D} (hr : OpR X (compareOp op) r) (ho : OpD X.K r o) (ha : SE X W T a fa) (hb : SE X W T b fb) (hm : behindInMarks op b = false) : ST X W T (.Compare a [op] [b] pos) (mT (x2 o fa fb)) := by
  obtain ⟨ta, pa, ea⟩ := ha.ex
  obtain ⟨tb, pb, eb⟩ := hb.ex
  exact ⟨_, pt_cmpR hr pa pb hm, ev_test (ev_op ho ea eb)⟩
end
end FL
namespace FL
open PySem PySem.Spec L2
section
variable {X : Cx} {W : WX} {T : List Nat} {K : PySem.W.Frag}
/-! ### arithmetic -/
theorem OpD.or {r r' : R2} {o o' : D → D → Option D} (h : OpD K r o) (h' : OpD K r' o') : OpD K (fun x y H Q => r x y H Q ∨ r' x y H Q) (fun d e => match o d e with | some z => some z | none => o' d e) := by
  intro x v u d e z Q s hv hu q k
  cases w : o d e with
  | some z' =>
    simp only [w] at q
    cases q
    exact .inl (h x v u d e _ Q s hv hu w k)
  | none =>
    simp only [w] at q
    exact .inr (h' x v u d e z Q s hv hu q k)
def intOp (c : Int → Int → Bool) (g : Int → Int → Int) : D → D → Option D
  | .int i, .int j => if c i j then some (.int (g i j)) else none
  | _, _ => none
theorem opd_int {C : Int → Int → Prop} {c : Int → Int → Bool} {g : Int → Int → Int} (h : ∀ i j, c i j = true → C i j) : OpD K (rI C fun i j => .int (g i j)) (intOp c g) := by
  intro x v u d e z Q s hv hu q k
  cases hv <;> try (simp [intOp] at q)
  cases hu <;> try (simp [intOp] at q)
  obtain ⟨q1, q2⟩ := q
  exact ⟨_, _, rfl, rfl, h _ _ q1, k x _ (Ext.refl s) (by rw [← q2]; exact .int _)⟩
theorem opd_int0 {g : Int → Int → Int} : OpD K (rI0 fun i j => .int (g i j)) (intOp (fun _ _ => true) g) := by
  intro x v u d e z Q s hv hu q k
  cases hv <;> try (simp [intOp] at q)
  cases hu <;> try (simp [intOp] at q)
  exact ⟨_, _, rfl, rfl, k x _ (Ext.refl s) (by rw [← q]; exact .int _)⟩
def cmpOp (g : Int → Int → Bool) : D → D → Option D
  | .int i, .int j => some (.bl (g i j))
  | _, _ => none
theorem opd_cmp {g : Int → Int → Bool} : OpD K (rI0 fun i j => .bl (g i j)) (cmpOp g) := by
  intro x v u d e z Q s hv hu q k
  cases hv <;> try (simp [cmpOp] at q)
  cases hu <;> try (simp [cmpOp] at q)
  exact ⟨_, _, rfl, rfl, k x _ (Ext.refl s) (by rw [← q]; exact .bl _)⟩
theorem opd_new {x : Cf} {Q : VK} {d : D} {o : Addr → V} (s : RSt K x) : True := trivial
theorem ext_tup {x : Cf} {vs : List V} {ds : List D} {p : Addr} (s : RSt K x) (hp : x.H p = none) (r : RepL K x.F vs ds) :
    Ext x ⟨upd x.F p (.tup vs), upd x.H p (.tup vs), x.s, x.r⟩ ∧ Rep K (upd x.F p (.tup vs)) (.ref p) (.tup ds) :=
  ⟨Ext.new s hp, .tup (SqT.of upd_same) (r.mono (same_upd (s.sub.free hp)))⟩
theorem ext_lst {x : Cf} {vs : List V} {ds : List D} {p : Addr} (s : RSt K x) (hp : x.H p = none) (r : RepL K x.F vs ds) :
    Ext x ⟨upd x.F p (.lst vs), upd x.H p (.lst vs), x.s, x.r⟩ ∧ Rep K (upd x.F p (.lst vs)) (.ref p) (.lst ds) :=
  ⟨Ext.new s hp, .lst upd_same (r.mono (same_upd (s.sub.free hp)))⟩
/-- the longest list or tuple that is reckoned with -/
def most : Nat := 100000
theorem most_line : most ≤ sizeLine := by rw [sizeLine_eq]; decide
theorem of_most {n : Nat} (h : decide (n ≤ most) = true) : n ≤ sizeLine := Nat.le_trans (of_decide_eq_true h) most_line
def catT : D → D → Option D
  | .tup a, .tup b => if decide (a.length + b.length ≤ most) then some (.tup (a ++ b)) else none
  | _, _ => none
theorem opd_catT : OpD K (rCatA K) catT := by
  intro x v u d e z Q s hv hu q k
  cases hv <;> try (simp [catT] at q)
  cases hu <;> try (simp [catT] at q)
  rename_i a vs ds ha ra b us es hb rb
  obtain ⟨q1, q2⟩ := q
  subst q2
  have ta := sameT s.sub ha
  have tb := sameT s.sub hb
  refine ⟨a, b, vs, us, rfl, rfl, ta, tb, ?_, fun e => ?_, fun _ e => ?_, fun _ _ p hp => ?_⟩
  · rw [ra.length, rb.length]; exact Nat.le_trans q1 most_line
  · subst e
    cases ra
    exact k x _ (Ext.refl s) (.tup hb rb)
  · subst e
    cases rb
    refine k x _ (Ext.refl s) ?_
    rw [List.append_nil]
    exact .tup ha ra
  · obtain ⟨h1, h2⟩ := ext_tup s hp (ra.app rb)
    exact k _ _ h1 h2
def catL : D → D → Option D
  | .lst a, .lst b => if decide (a.length + b.length ≤ most) then some (.lst (a ++ b)) else none
  | _, _ => none
theorem opd_catL : OpD K rCat catL := by
  intro x v u d e z Q s hv hu q k
  cases hv <;> try (simp [catL] at q)
  cases hu <;> try (simp [catL] at q)
  rename_i a vs ds ha ra b us es hb rb
  obtain ⟨q1, q2⟩ := q
  subst q2
  refine ⟨a, b, vs, us, rfl, rfl, s.sub _ _ ha, s.sub _ _ hb, ?_, fun p hp => ?_⟩
  · rw [ra.length, rb.length]; exact Nat.le_trans q1 most_line
  · obtain ⟨h1, h2⟩ := ext_lst s hp (ra.app rb)
    exact k _ _ h1 h2
def catS : D → D → Option D
  | .str a, .str b => if decide (a.length + b.length ≤ most) then some (.str (a ++ b)) else none
  | _, _ => none
theorem opd_catS : OpD K (fun x y H Q => ∃ i j, x = .str i ∧ y = .str j ∧ i.length + j.length ≤ sizeLine ∧ Q (.str (i ++ j)) H) catS := by
  intro x v u d e z Q s hv hu q k
  cases hv <;> try (simp [catS] at q)
  cases hu <;> try (simp [catS] at q)
  obtain ⟨q1, q2⟩ := q
  subst q2
  exact ⟨_, _, rfl, rfl, Nat.le_trans q1 most_line, k x _ (Ext.refl s) (.str _)⟩
def orD (o o' : D → D → Option D) : D → D → Option D := fun d e => match o d e with
  | some z => some z
  | none => o' d e
def addI : D → D → Option D := intOp (fun _ _ => true) fun i j => i + j
def addD : D → D → Option D
  | .int i, .int j => some (.int (i + j))
  | .tup a, .tup b => if decide (a.length + b.length ≤ most) then some (.tup (a ++ b)) else none
  | .lst a, .lst b => if decide (a.length + b.length ≤ most) then some (.lst (a ++ b)) else none
  | .str a, .str b => if decide (a.length + b.length ≤ most) then some (.str (a ++ b)) else none
  | _, _ => none
theorem OpD.le {r : R2} {o o' : D → D → Option D} (h : OpD K r o) (e : ∀ d e z, o' d e = some z → o d e = some z) : OpD K r o' := fun x v u d e' z Q s hv hu q k => h x v u d e' z Q s hv hu (e _ _ _ q) k
theorem opd_add : OpD K (fun x y H Q => rI0 (fun i j => .int (i + j)) x y H Q ∨ rCatA K x y H Q ∨ rCat x y H Q ∨ ∃ i j, x = .str i ∧ y = .str j ∧ i.length + j.length ≤ sizeLine ∧ Q (.str (i ++ j)) H) addD := by
  refine (OpD.or (opd_int0 (g := fun i j => i + j)) (OpD.or opd_catT (OpD.or opd_catL opd_catS))).le fun d e z h => ?_
  cases d <;> cases e <;> simp [addD] at h <;> simp [intOp, catT, catL, catS, h]
theorem se_add {a b : Expr} {pos : Pos} {fa fb : M D} (ha : SE X W T a fa) (hb : SE X W T b fb) : SE X W T (.BinOp a .Add b pos) (x2 addD fa fb) :=
  se_op (OpR.or op_add (OpR.or op_catA (OpR.or op_cat op_add_str))) opd_add ha hb
def subD : D → D → Option D
  | .int i, .int j => some (.int (i - j))
  | _, _ => none
theorem se_sub {a b : Expr} {pos : Pos} {fa fb : M D} (ha : SE X W T a fa) (hb : SE X W T b fb) : SE X W T (.BinOp a .Sub b pos) (x2 subD fa fb) :=
  se_op op_sub ((opd_int0 (g := fun i j => i - j)).le fun d e z h => by cases d <;> cases e <;> simp [subD] at h <;> simp [intOp, h]) ha hb
/-- a bound for the figures of a number -/
def bitsOf (i : Int) : Nat := i.natAbs.log2 + 1
theorem lt_bitsOf (i : Int) : i.natAbs < 2 ^ bitsOf i := Nat.lt_log2_self
def mulOk (i j : Int) : Bool := decide (bitsOf i + bitsOf j ≤ 134217728)
theorem mulOk_x {i j : Int} (h : mulOk i j = true) : CMulX i j := mulx_ok (lt_bitsOf i) (lt_bitsOf j) (of_decide_eq_true h)
/-- so many times a row -/
def timesL (ds : List D) (k : Nat) : List D := (List.replicate k ds).flatten
theorem RepL.times {F : Hp} {vs : List V} {ds : List D} (r : RepL K F vs ds) : ∀ k : Nat, RepL K F (List.replicate k vs).flatten (timesL ds k)
  | 0 => .nil
  | k + 1 => by
    unfold timesL
    rw [List.replicate_succ, List.replicate_succ, List.flatten_cons, List.flatten_cons]
    exact r.app (RepL.times r k)
/-! a tuple, once: the same one; the sum of a tuple -/
end
section
open PyProof.Rows
theorem tuple_mul1 (l : Addr) (items : Array Value) (n : Nat) (dd : Option Addr) (sl : Array (Option Value)) (u : Tok) :
    Meets (Builtin.«tuple.__mul__» ⟨[.ref l, .int 1 u], []⟩) (fun _ R s => s.heap.get? l = some { cls := .type "tuple", dict := dd, data := .seq items n, slots := sl } ∧ R (.ok (.ret (Value.ref l))) s) :=
  .of_wp fun prog w A R s h => by
    obtain ⟨hp, g, d, tk, os⟩ := s
    obtain ⟨hl, h⟩ := h
    have f1 := AutoSeq1.idx_int
    have c1 : (items.isEmpty || (1 : Int) == 1) = true := by simp
    wp_walk using wpAny_loadPart' hl
    exact ⟨_, rfl, h⟩
def rOne (K : PySem.W.Frag) : R2 := fun x y H Q => ∃ l xs, x = .ref l ∧ y = .int 1 ∧ SqT K H l xs ∧ Q (.ref l) H
section
variable {X : Cx}
theorem op_one : OpR X (binaryOp .Mult) (rOne X.K) := by
  intro pins s σ H x y v u Q I rx ry h
  obtain ⟨l, xs, rfl, rfl, hT, q⟩ := h
  cases rx
  obtain ⟨t, rfl⟩ := ry
  obtain ⟨its, r, ⟨⟨cls, dd, data, sl⟩, ho, hc, n, hd⟩, hs⟩ := I.tuple hT
  simp only at hc hd
  subst hc hd
  refine wpAny_binaryOp_repeat_ref (T := "tuple") (U := "int") (by decide) ⟨_, ho, rfl⟩ (fun s' => typeIs_int s' 1 t) noFill_tuple_mul F.fills_int_mul F.slot_int_rmul repeat_tuple F.slot_int_index.lookup
    (call_meets F.slot_int_rmul (typeIs_int s 1 t) F.entry_int_rmul (F.args_int_rmul_2 _ _) (int_rmul_tuple 1 t l its.toArray n dd sl)
      ⟨ho, rfl, ⟨_, ho, rfl⟩, call_meets F.slot_tuple_mul ⟨_, ho, rfl⟩ F.entry_tuple_mul (F.args_tuple_mul_2 _ _) (tuple_mul1 l its.toArray n dd sl t) ⟨ho, ?_⟩⟩)
  exact ⟨.ref l, H, I, rfl, q⟩
/-! sum of a tuple of ints -/
def rSumT (K : PySem.W.Frag) : List V → Hp → VK → Prop := fun vs H Q => ∃ (a : Addr) (ns : List Int), vs = [V.ref a] ∧ SqT K H a (ns.map V.int) ∧ Q (.int ns.sum) H
theorem cr_sumT (hc : X.calm = true) : CallR X (.builtin "sum") (rSumT X.K) := by
  intro pins s σ H vs us Q I r h
  obtain ⟨a, ns, rfl, hs, q⟩ := h
  obtain ⟨its, rv, hl, _⟩ := I.tuple hs
  rw [Vals.ref1 r]
  obtain ⟨xs, e⟩ := rv.ints.allInts.items
  have hn : numsOf (intItems xs).toList = ns := by rw [← e]; exact rv.ints.numsOf
  rw [nums_intItems] at hn
  rw [e] at hl
  refine PySem.W.ktm_sumG (I.ok.hd hc) hl fun h' tk t' hk => ?_
  rw [preSum_eq, List.take_of_length_le (by simp), hn]
  exact ⟨.int _, H, I.kept hk, ⟨_, rfl⟩, q⟩
end
end
section
variable {X : Cx} {W : WX} {T : List Nat} {K : PySem.W.Frag}
def mulD : D → D → Option D
  | .int i, .int j => if mulOk i j then some (.int (i * j)) else none
  | .tup a, .int k => if k = 1 then some (.tup a) else if decide (a ≠ [] ∧ 2 ≤ k ∧ k ≤ 1000 ∧ a.length ≤ 1000) then some (.tup (timesL a k.toNat)) else none
  | .lst a, .int k => if decide (-1000 ≤ k ∧ k ≤ 1000 ∧ a.length ≤ 1000) then some (.lst (timesL a k.toNat)) else none
  | _, _ => none
theorem opd_mul : OpD K (fun x y H Q => rI CMulX (fun i j => .int (i * j)) x y H Q ∨ rRepT K x y H Q ∨ rRep x y H Q ∨ rOne K x y H Q) mulD := by
  intro x v u d e z Q s hv hu q k
  cases hv <;> cases hu <;> simp only [mulD, reduceCtorEq] at q
  · split at q
    · rename_i q1
      cases q
      exact .inl ⟨_, _, rfl, rfl, mulOk_x q1, k x _ (Ext.refl s) (.int _)⟩
    · cases q
  · rename_i a vs ds ha ra n
    split at q
    · rename_i e1
      cases q
      subst e1
      exact .inr (.inr (.inr ⟨a, vs, rfl, rfl, sameT s.sub ha, k x _ (Ext.refl s) (.tup ha ra)⟩))
    · split at q
      · rename_i q0
        obtain ⟨q0, q1, q2, q3⟩ := of_decide_eq_true q0
        cases q
        refine .inr (.inl ⟨a, n, vs, rfl, rfl, sameT s.sub ha, ?_, q1, q2, ?_, fun p hp => ?_⟩)
        · intro e
          subst e
          cases ra
          exact q0 rfl
        · rw [ra.length]; exact q3
        · obtain ⟨h1, h2⟩ := ext_tup s hp (ra.times n.toNat)
          exact k _ _ h1 h2
      · cases q
  · rename_i a vs ds ha ra n
    split at q
    · rename_i q0
      obtain ⟨q1, q2, q3⟩ := of_decide_eq_true q0
      cases q
      refine .inr (.inr (.inl ⟨a, n, vs, rfl, rfl, s.sub _ _ ha, by omega, by omega, ?_, fun p hp => ?_⟩))
      · rw [ra.length, sizeLine_eq]
        have h1 : n.toNat ≤ 1000 := by omega
        exact Nat.le_trans (Nat.mul_le_mul q3 h1) (by decide)
      · obtain ⟨h1, h2⟩ := ext_lst s hp (ra.times n.toNat)
        exact k _ _ h1 h2
    · cases q
theorem se_mul {a b : Expr} {pos : Pos} {fa fb : M D} (ha : SE X W T a fa) (hb : SE X W T b fb) : SE X W T (.BinOp a .Mult b pos) (x2 mulD fa fb) :=
  se_op (OpR.or op_mulX (OpR.or op_repT (OpR.or op_rep op_one))) opd_mul ha hb
def divOk (j : Int) : Bool := decide (0 < j ∧ bitsOf j ≤ 9000)
def divD : D → D → Option D
  | .int i, .int j => if divOk j then some (.int (i / j)) else if decide (j ≠ 0 ∧ j.natAbs < 1073741824) then some (.int (i.fdiv j)) else none
  | _, _ => none
theorem opd_div : OpD K (fun x y H Q => rI CDivW (fun i j => .int (i / j)) x y H Q ∨ rI CDivN (fun i j => .int (i.fdiv j)) x y H Q) divD := by
  refine (OpD.or (opd_int (C := CDivW) (c := fun _ j => divOk j) (g := fun i j => i / j) fun i j h => ?_) (opd_int (C := CDivN) (c := fun _ j => decide (j ≠ 0 ∧ j.natAbs < 1073741824)) (g := fun i j => i.fdiv j) fun i j h => (of_decide_eq_true h : j ≠ 0 ∧ j.natAbs < 1073741824))).le fun d e z h => ?_
  · obtain ⟨h1, h2⟩ := of_decide_eq_true h
    exact ⟨h1, by unfold bitsOf at h2; omega⟩
  · cases d <;> cases e <;> simp [divD] at h
    rename_i i j
    by_cases c : divOk j = true
    · simp [c] at h; simp [intOp, c, h]
    · simp [c] at h; simp [intOp, c, h]
theorem se_div {a b : Expr} {pos : Pos} {fa fb : M D} (ha : SE X W T a fa) (hb : SE X W T b fb) : SE X W T (.BinOp a .FloorDiv b pos) (x2 divD fa fb) :=
  se_op (OpR.or op_fdivW op_fdivN) opd_div ha hb
def modD : D → D → Option D
  | .int i, .int j => if decide (0 < j) then some (.int (i % j)) else if decide (j ≠ 0) then some (.int (i.fmod j)) else none
  | _, _ => none
theorem opd_mod : OpD K (fun x y H Q => rI (fun _ j => 0 < j) (fun i j => .int (i % j)) x y H Q ∨ rI (fun _ j => j ≠ 0) (fun i j => .int (i.fmod j)) x y H Q) modD := by
  refine (OpD.or (opd_int (C := fun _ j => 0 < j) (c := fun _ j => decide (0 < j)) (g := fun i j => i % j) fun i j h => of_decide_eq_true h) (opd_int (C := fun _ j => j ≠ 0) (c := fun _ j => decide (j ≠ 0)) (g := fun i j => i.fmod j) fun i j h => of_decide_eq_true h)).le fun d e z h => ?_
  cases d <;> cases e <;> simp [modD] at h
  rename_i i j
  by_cases c : 0 < j
  · simp [c] at h; simp [intOp, c, h]
  · simp [c] at h; simp [intOp, c, h]
theorem se_mod {a b : Expr} {pos : Pos} {fa fb : M D} (ha : SE X W T a fa) (hb : SE X W T b fb) : SE X W T (.BinOp a .Mod b pos) (x2 modD fa fb) :=
  se_op (OpR.or op_mod op_modN) opd_mod ha hb
def powD : D → D → Option D
  | .int i, .int j => if decide (0 ≤ j ∧ j ≤ 1000 ∧ i.natAbs < 2 ^ 64) then some (.int (i ^ j.toNat)) else none
  | _, _ => none
theorem se_pow {a b : Expr} {pos : Pos} {fa fb : M D} (ha : SE X W T a fa) (hb : SE X W T b fb) : SE X W T (.BinOp a .Pow b pos) (x2 powD fa fb) :=
  se_op op_pow ((opd_int (C := CPow) (c := fun i j => decide (0 ≤ j ∧ j ≤ 1000 ∧ i.natAbs < 2 ^ 64)) (g := fun i j => i ^ j.toNat) fun i j h => by
    obtain ⟨h1, h2, h3⟩ := of_decide_eq_true h
    exact ⟨h1, by omega, h3⟩).le fun d e z h => by cases d <;> cases e <;> simp [powD] at h <;> simp [intOp, h]) ha hb
/-! ### comparisons -/
def ltD : D → D → Option D
  | .int i, .int j => some (.bl (decide (i < j)))
  | _, _ => none
def leD : D → D → Option D
  | .int i, .int j => some (.bl (decide (i ≤ j)))
  | _, _ => none
def gtD : D → D → Option D
  | .int i, .int j => some (.bl (decide (j < i)))
  | _, _ => none
def geD : D → D → Option D
  | .int i, .int j => some (.bl (decide (j ≤ i)))
  | _, _ => none
theorem opd_lt : OpD K (rI0 fun i j => .bl (decide (i < j))) ltD := opd_cmp.le fun d e z h => by cases d <;> cases e <;> simp [ltD] at h <;> simp [cmpOp, h]
theorem opd_le : OpD K (rI0 fun i j => .bl (decide (i ≤ j))) leD := opd_cmp.le fun d e z h => by cases d <;> cases e <;> simp [leD] at h <;> simp [cmpOp, h]
theorem opd_gt : OpD K (rI0 fun i j => .bl (decide (j < i))) gtD := opd_cmp.le fun d e z h => by cases d <;> cases e <;> simp [gtD] at h <;> simp [cmpOp, h]
theorem opd_ge : OpD K (rI0 fun i j => .bl (decide (j ≤ i))) geD := opd_cmp.le fun d e z h => by cases d <;> cases e <;> simp [geD] at h <;> simp [cmpOp, h]
mutual
def toPy : D → Option PyData
  | .non => some .none
  | .bl b => some (.bool b)
  | .int i => some (.int i)
  | .str x => some (.str x)
  | .tup ds => (toPys ds).map .tuple
  | .lst ds => (toPys ds).map .list
  | .scr _ => none
  | .dct _ => none
  | .opq _ => none
  | .dfn _ => none
def toPys : List D → Option (List PyData)
  | [] => some []
  | d :: ds => match toPy d, toPys ds with
    | some p, some ps => some (p :: ps)
    | _, _ => none
end
mutual
theorem dp_of {F H : Hp} (e : Same F H) : ∀ {v : V} {d : D} {p : PyData}, Rep K F v d → toPy d = some p → Dp K H v p
  | _, _, _, .non, h => by cases h; exact .non
  | _, _, _, .bl b, h => by cases h; exact .bl b
  | _, _, _, .int i, h => by cases h; exact .int i
  | _, _, _, .str x, h => by cases h; exact .str x
  | _, _, _, .tup (ds := ds) ha r, h => by
    unfold toPy at h
    cases q : toPys ds with
    | none => rw [q] at h; cases h
    | some ps => rw [q] at h; cases h; exact .tup (sameT e ha) (dps_of e r q)
  | _, _, _, .lst (ds := ds) ha r, h => by
    unfold toPy at h
    cases q : toPys ds with
    | none => rw [q] at h; cases h
    | some ps => rw [q] at h; cases h; exact .lst (SqL.of (e _ _ ha)) (dps_of e r q)
  | _, _, _, .scr _ _, h => by cases h
  | _, _, _, .dct _ _, h => by cases h
  | _, _, _, .opq _, h => by cases h
  | _, _, _, .dfn _, h => by cases h
theorem dps_of {F H : Hp} (e : Same F H) : ∀ {vs : List V} {ds : List D} {ps : List PyData}, RepL K F vs ds → toPys ds = some ps → DpAll K H vs ps
  | _, _, _, .nil, h => by cases h; exact .nil
  | _, _, _, .cons (d := d) (ds := ds) h1 h2, h => by
    unfold toPys at h
    cases q : toPy d with
    | none => rw [q] at h; cases h
    | some p =>
      cases q2 : toPys ds with
      | none => rw [q, q2] at h; cases h
      | some ps => rw [q, q2] at h; cases h; exact .cons (dp_of e h1 q) (dps_of e h2 q2)
end
def eqB (d e : D) : Option Bool := match toPy d, toPy e with
  | some p, some q => if SeqAt.shaped p && SeqAt.shaped q then some (PyData.eqv p q) else none
  | _, _ => none
def eqD (d e : D) : Option D := (eqB d e).map .bl
def neD (d e : D) : Option D := (eqB d e).map fun b => .bl (!b)
theorem eqB_of {d e : D} {b : Bool} (h : eqB d e = some b) : ∃ p q, toPy d = some p ∧ toPy e = some q ∧ SeqAt.shaped p = true ∧ SeqAt.shaped q = true ∧ PyData.eqv p q = b := by
  unfold eqB at h
  split at h
  · rename_i p q hp hq
    split at h
    · rename_i c
      obtain ⟨c1, c2⟩ := Bool.and_eq_true_iff.mp c
      exact ⟨p, q, hp, hq, c1, c2, Option.some.inj h⟩
    · cases h
  · cases h
theorem opd_eq : OpD K (rEqD K) eqD := by
  intro x v u d e z Q s hv hu q k
  unfold eqD at q
  cases w : eqB d e with
  | none => rw [w] at q; cases q
  | some b =>
    rw [w] at q
    cases q
    obtain ⟨p, p', h1, h2, h3, h4, h5⟩ := eqB_of w
    refine ⟨p, p', dp_of s.sub hv h1, dp_of s.sub hu h2, h3, h4, k x _ (Ext.refl s) ?_⟩
    rw [h5]; exact .bl b
theorem opd_ne : OpD K (rNeD K) neD := by
  intro x v u d e z Q s hv hu q k
  unfold neD at q
  cases w : eqB d e with
  | none => rw [w] at q; cases q
  | some b =>
    rw [w] at q
    cases q
    obtain ⟨p, p', h1, h2, h3, h4, h5⟩ := eqB_of w
    refine ⟨p, p', dp_of s.sub hv h1, dp_of s.sub hu h2, h3, h4, k x _ (Ext.refl s) ?_⟩
    rw [h5]; exact .bl _
def isNon : D → Bool
  | .non => true
  | _ => false
theorem non_of {F : Hp} {v : V} {d : D} (h : Rep K F v d) (hq : ∀ w, d ≠ .opq w) : decide (v = .non) = isNon d := by
  cases h <;> simp [isNon]
  exact absurd rfl (hq v)
def isNoneD : D → D → Option D
  | .opq _, _ => none
  | d, .non => some (.bl (isNon d))
  | _, _ => none
def notNoneD : D → D → Option D
  | .opq _, _ => none
  | d, .non => some (.bl (!isNon d))
  | _, _ => none
theorem isNoneD_of {d e z : D} (q : isNoneD d e = some z) : e = .non ∧ (∀ w, d ≠ .opq w) ∧ z = .bl (isNon d) := by
  cases d <;> cases e <;> simp [isNoneD, isNon] at q ⊢ <;> exact q.symm
theorem notNoneD_of {d e z : D} (q : notNoneD d e = some z) : e = .non ∧ (∀ w, d ≠ .opq w) ∧ z = .bl (!isNon d) := by
  cases d <;> cases e <;> simp [notNoneD, isNon] at q ⊢ <;> exact q.symm
theorem opd_isN : OpD K (fun x y H Q => y = .non ∧ Q (.bl (decide (x = .non))) H) isNoneD := by
  intro x v u d e z Q s hv hu q k
  obtain ⟨h1, h2, h3⟩ := isNoneD_of q
  subst h1 h3
  cases hu
  refine ⟨rfl, k x _ (Ext.refl s) ?_⟩
  rw [non_of hv h2]
  exact .bl _
theorem opd_notN : OpD K (fun x y H Q => y = .non ∧ Q (.bl (!decide (x = .non))) H) notNoneD := by
  intro x v u d e z Q s hv hu q k
  obtain ⟨h1, h2, h3⟩ := notNoneD_of q
  subst h1 h3
  cases hu
  refine ⟨rfl, k x _ (Ext.refl s) ?_⟩
  rw [non_of hv h2]
  exact .bl _
/-- the comparisons as values, then as tests -/
theorem se_lt {a b : Expr} {pos : Pos} {fa fb : M D} (ha : SE X W T a fa) (hb : SE X W T b fb) : SE X W T (.Compare a [.Lt] [b] pos) (x2 ltD fa fb) := se_cmp op_lt opd_lt ha hb (nomark _)
theorem se_le {a b : Expr} {pos : Pos} {fa fb : M D} (ha : SE X W T a fa) (hb : SE X W T b fb) : SE X W T (.Compare a [.LtE] [b] pos) (x2 leD fa fb) := se_cmp op_le opd_le ha hb (nomark _)
theorem se_gt {a b : Expr} {pos : Pos} {fa fb : M D} (ha : SE X W T a fa) (hb : SE X W T b fb) : SE X W T (.Compare a [.Gt] [b] pos) (x2 gtD fa fb) := se_cmp op_gt opd_gt ha hb (nomark _)
theorem se_ge {a b : Expr} {pos : Pos} {fa fb : M D} (ha : SE X W T a fa) (hb : SE X W T b fb) : SE X W T (.Compare a [.GtE] [b] pos) (x2 geD fa fb) := se_cmp op_ge opd_ge ha hb (nomark _)
theorem se_eq {a b : Expr} {pos : Pos} {fa fb : M D} (hu : X.A.units + 64 < cLine) (ha : SE X W T a fa) (hb : SE X W T b fb) : SE X W T (.Compare a [.Eq] [b] pos) (x2 eqD fa fb) := se_cmp (op_eqD hu) opd_eq ha hb (nomark _)
theorem se_ne {a b : Expr} {pos : Pos} {fa fb : M D} (hu : X.A.units + 64 < cLine) (ha : SE X W T a fa) (hb : SE X W T b fb) : SE X W T (.Compare a [.NotEq] [b] pos) (x2 neD fa fb) := se_cmp (op_neD hu) opd_ne ha hb (nomark _)
theorem se_isN {a b : Expr} {pos : Pos} {fa fb : M D} (ha : SE X W T a fa) (hb : SE X W T b fb) : SE X W T (.Compare a [.Is] [b] pos) (x2 isNoneD fa fb) := se_cmp op_isN opd_isN ha hb (nomark _)
theorem se_notN {a b : Expr} {pos : Pos} {fa fb : M D} (ha : SE X W T a fa) (hb : SE X W T b fb) : SE X W T (.Compare a [.IsNot] [b] pos) (x2 notNoneD fa fb) := se_cmp op_notN opd_notN ha hb (nomark _)
theorem st_lt {a b : Expr} {pos : Pos} {fa fb : M D} (ha : SE X W T a fa) (hb : SE X W T b fb) : ST X W T (.Compare a [.Lt] [b] pos) (mT (x2 ltD fa fb)) := st_cmp op_lt opd_lt ha hb (nomark _)
theorem st_le {a b : Expr} {pos : Pos} {fa fb : M D} (ha : SE X W T a fa) (hb : SE X W T b fb) : ST X W T (.Compare a [.LtE] [b] pos) (mT (x2 leD fa fb)) := st_cmp op_le opd_le ha hb (nomark _)
theorem st_gt {a b : Expr} {pos : Pos} {fa fb : M D} (ha : SE X W T a fa) (hb : SE X W T b fb) : ST X W T (.Compare a [.Gt] [b] pos) (mT (x2 gtD fa fb)) := st_cmp op_gt opd_gt ha hb (nomark _)
theorem st_ge {a b : Expr} {pos : Pos} {fa fb : M D} (ha : SE X W T a fa) (hb : SE X W T b fb) : ST X W T (.Compare a [.GtE] [b] pos) (mT (x2 geD fa fb)) := st_cmp op_ge opd_ge ha hb (nomark _)
theorem st_eq {a b : Expr} {pos : Pos} {fa fb : M D} (hu : X.A.units + 64 < cLine) (ha : SE X W T a fa) (hb : SE X W T b fb) : ST X W T (.Compare a [.Eq] [b] pos) (mT (x2 eqD fa fb)) := st_cmp (op_eqD hu) opd_eq ha hb (nomark _)
theorem st_ne {a b : Expr} {pos : Pos} {fa fb : M D} (hu : X.A.units + 64 < cLine) (ha : SE X W T a fa) (hb : SE X W T b fb) : ST X W T (.Compare a [.NotEq] [b] pos) (mT (x2 neD fa fb)) := st_cmp (op_neD hu) opd_ne ha hb (nomark _)
theorem st_isN {a b : Expr} {pos : Pos} {fa fb : M D} (ha : SE X W T a fa) (hb : SE X W T b fb) : ST X W T (.Compare a [.Is] [b] pos) (mT (x2 isNoneD fa fb)) := st_cmp op_isN opd_isN ha hb (nomark _)
theorem st_notN {a b : Expr} {pos : Pos} {fa fb : M D} (ha : SE X W T a fa) (hb : SE X W T b fb) : ST X W T (.Compare a [.IsNot] [b] pos) (mT (x2 notNoneD fa fb)) := st_cmp op_notN opd_notN ha hb (nomark _)
end
end FL
namespace FL
open PySem PySem.Spec L2
section
variable {X : Cx} {W : WX} {T : List Nat} {K : PySem.W.Frag}
/-! ### truth -/
def truB : D → Option Bool
  | .non => some false
  | .bl b => some b
  | .int i => some (i != 0)
  | .str x => if decide (x.length ≤ most) then some ((x.length : Int) != 0) else none
  | .tup ds => some (!ds.isEmpty)
  | .lst ds => some (!ds.isEmpty)
  | .scr ds => some (!ds.isEmpty)
  | .dct kvs => some (!kvs.isEmpty)
  | .opq _ => none
  | .dfn _ => none
theorem RepL.empty {F : Hp} {vs : List V} {ds : List D} (r : RepL K F vs ds) : vs.isEmpty = ds.isEmpty := by cases r <;> rfl
theorem tru_of {F H : Hp} {v : V} {d : D} {k : Bool} (e : Same F H) (h : Rep K F v d) (q : truB d = some k) : TruV K v H k := by
  cases h with
  | non => exact (Option.some.inj q).symm
  | bl b => exact (Option.some.inj q).symm
  | int i => exact (Option.some.inj q).symm
  | str x =>
    simp only [truB] at q
    split at q
    · rename_i c
      exact ⟨of_most c, (Option.some.inj q).symm⟩
    · cases q
  | tup h r => exact .inr (.inl ⟨_, sameT e h, by rw [r.empty]; exact (Option.some.inj q).symm⟩)
  | lst h r => exact .inl ⟨_, SqL.of (e _ _ h), by rw [r.empty]; exact (Option.some.inj q).symm⟩
  | scr h r => exact .inl ⟨_, e.seq h, by rw [r.empty]; exact (Option.some.inj q).symm⟩
  | dct h r => exact .inr (.inr ⟨_, e _ _ h, by
      have : ∀ {a : List (Key × V)} {b : List (Key × D)}, RepK K F a b → a.isEmpty = b.isEmpty := fun r => by cases r <;> rfl
      rw [this r]; exact (Option.some.inj q).symm⟩)
  | opq v => cases q
  | dfn h => cases q
def mTru (m : M D) : M Bool := mB m fun d => mO (truB d)
theorem mTru_run {te : TE} {f : M D} (h : EvE X W T te f) {x : Cf} {Q : VK} {α : Type} {k : Bool → D → M α} {Qf : α → Cf → Prop} (s : RSt X.K x) (p : Post X.K X.mg T W x (mB f (fun d => mB (mO (truB d)) fun b => k b d) x.r) Qf)
    (n : ∀ b d y, Fr T x y → RSt X.K y → y.s = x.s → (∀ v, Rep X.K y.F v d → TruV X.K v y.H b → Post X.K X.mg T W y (k b d y.r) Qf → Q v y.H)) : te x.s x.H Q := by
  refine h.bind s p fun d y f1 s1 e1 v hv p1 => ?_
  cases q : truB d with
  | none => rw [q] at p1; exact p1.elim
  | some b =>
    rw [q] at p1
    exact n b d y f1 s1 e1 v hv (tru_of s1.sub hv q) p1
theorem ev_truth {te : TE} {f : M D} (h : EvE X W T te f) : EvT X W T (fun σ H Q => te σ H fun x H' => ∃ k, TruV X.K x H' k ∧ Q k H') (mTru f) := by
  intro x Q s p
  refine h.bind s p fun d y f1 s1 e1 v hv p1 => ?_
  cases q : truB d with
  | none => rw [q] at p1; exact p1.elim
  | some b =>
    rw [q] at p1
    exact ⟨b, tru_of s1.sub hv q, p1 y rfl (Fr.refl T y) s1 e1⟩
theorem st_of {e : Expr} {f : M D} (h : SE X W T e f) (he : ∀ whole, isTrue e X.env whole = (do let v ← whole; standAt e.pos; holding [v] (truthy v)) := by intro _; rfl) : ST X W T e (mTru f) := by
  obtain ⟨te, pe, ev⟩ := h.ex
  exact ⟨_, pt_truth pe he, ev_truth ev⟩
/-! ### and, or, not -/
def xAnd (a b : M D) : M D := mB a fun d => mB (mO (truB d)) fun k => if k then b else mP d
def xOr (a b : M D) : M D := mB a fun d => mB (mO (truB d)) fun k => if k then mP d else b
def xNot (a : M D) : M D := mB a fun d => mB (mO (truB d)) fun k => mP (.bl (!k))
theorem se_one {op} {a : Expr} {pos : Pos} {f : M D} (h : SE X W T a f) : SE X W T (.BoolOp op [a] pos) f := by
  obtain ⟨te, pe, ev⟩ := h.ex
  exact ⟨_, pe_one pe, ev⟩
theorem se_and {a b : Expr} {rest : List Expr} {pos : Pos} {fa fb : M D} (ha : SE X W T a fa) (hb : SE X W T (.BoolOp .And (b :: rest) pos) fb) : SE X W T (.BoolOp .And (a :: b :: rest) pos) (xAnd fa fb) := by
  obtain ⟨ta, pa, ea⟩ := ha.ex
  obtain ⟨tb, pb, eb⟩ := hb.ex
  refine ⟨_, pe_andT pa pb, fun x Q s p => ?_⟩
  refine mTru_run ea s p fun k d y f1 s1 e1 v hv tv p1 => ⟨k, tv, ?_⟩
  cases k with
  | true =>
    show tb x.s y.H Q
    rw [← e1]
    exact eb y Q s1 (p1.mono fun a z _ _ q e => q (e.trans e1))
  | false => exact p1 y rfl (Fr.refl T y) s1 e1 v hv
theorem se_or {a b : Expr} {rest : List Expr} {pos : Pos} {fa fb : M D} (ha : SE X W T a fa) (hb : SE X W T (.BoolOp .Or (b :: rest) pos) fb) : SE X W T (.BoolOp .Or (a :: b :: rest) pos) (xOr fa fb) := by
  obtain ⟨ta, pa, ea⟩ := ha.ex
  obtain ⟨tb, pb, eb⟩ := hb.ex
  refine ⟨_, pe_orT pa pb, fun x Q s p => ?_⟩
  refine mTru_run ea s p fun k d y f1 s1 e1 v hv tv p1 => ⟨k, tv, ?_⟩
  cases k with
  | true => exact p1 y rfl (Fr.refl T y) s1 e1 v hv
  | false =>
    show tb x.s y.H Q
    rw [← e1]
    exact eb y Q s1 (p1.mono fun a z _ _ q e => q (e.trans e1))
theorem se_not {a : Expr} {pos : Pos} {fa : M D} (ha : SE X W T a fa) : SE X W T (.UnaryOp .Not a pos) (xNot fa) := by
  obtain ⟨ta, pa, ea⟩ := ha.ex
  refine ⟨_, pe_notT pa, fun x Q s p => ?_⟩
  exact mTru_run ea s p fun k d y f1 s1 e1 v hv tv p1 => ⟨k, tv, p1 y rfl (Fr.refl T y) s1 e1 _ (.bl _)⟩
structure SW (X : Cx) (W : WX) (T : List Nat) (e : Expr) (f : M Bool) : Prop where
  ex : ∃ te, PW X e te ∧ EvT X W T te f
def tAndM (a b : M Bool) : M Bool := mB a fun k => if k then b else mP false
def tOrM (a b : M Bool) : M Bool := mB a fun k => if k then mP true else b
def tNotM (a : M Bool) : M Bool := mB a fun k => mP (!k)
theorem sw_and1 {a : Expr} {pos : Pos} {f : M Bool} (h : ST X W T a f) : SW X W T (.BoolOp .And [a] pos) f := by
  obtain ⟨te, pe, ev⟩ := h.ex
  exact ⟨_, pw_and1 pe, ev⟩
theorem sw_or1 {a : Expr} {pos : Pos} {f : M Bool} (h : ST X W T a f) : SW X W T (.BoolOp .Or [a] pos) f := by
  obtain ⟨te, pe, ev⟩ := h.ex
  exact ⟨_, pw_or1 pe, ev⟩
theorem sw_and {a b : Expr} {rest : List Expr} {pos : Pos} {fa fb : M Bool} (ha : ST X W T a fa) (hb : SW X W T (.BoolOp .And (b :: rest) pos) fb) : SW X W T (.BoolOp .And (a :: b :: rest) pos) (tAndM fa fb) := by
  obtain ⟨ta, pa, ea⟩ := ha.ex
  obtain ⟨tb, pb, eb⟩ := hb.ex
  refine ⟨_, pw_and pa pb, fun x Q s p => ?_⟩
  refine ea.bind s p fun k y f1 s1 e1 p1 => ?_
  cases k with
  | true =>
    show tb x.s y.H Q
    rw [← e1]
    exact eb y Q s1 (p1.mono fun a z _ _ q e => q (e.trans e1))
  | false => exact p1 y rfl (Fr.refl T y) s1 e1
theorem sw_or {a b : Expr} {rest : List Expr} {pos : Pos} {fa fb : M Bool} (ha : ST X W T a fa) (hb : SW X W T (.BoolOp .Or (b :: rest) pos) fb) : SW X W T (.BoolOp .Or (a :: b :: rest) pos) (tOrM fa fb) := by
  obtain ⟨ta, pa, ea⟩ := ha.ex
  obtain ⟨tb, pb, eb⟩ := hb.ex
  refine ⟨_, pw_or pa pb, fun x Q s p => ?_⟩
  refine ea.bind s p fun k y f1 s1 e1 p1 => ?_
  cases k with
  | true => exact p1 y rfl (Fr.refl T y) s1 e1
  | false =>
    show tb x.s y.H Q
    rw [← e1]
    exact eb y Q s1 (p1.mono fun a z _ _ q e => q (e.trans e1))
theorem SW.pt {e : Expr} {f : M Bool} (h : SW X W T e f) : ST X W T e f := by
  obtain ⟨te, pe, ev⟩ := h.ex
  exact ⟨_, pe.pt, ev⟩
theorem st_not {a : Expr} {pos : Pos} {f : M Bool} (h : ST X W T a f) : ST X W T (.UnaryOp .Not a pos) (tNotM f) := by
  obtain ⟨te, pe, ev⟩ := h.ex
  refine ⟨_, pt_not pe, fun x Q s p => ?_⟩
  exact ev.bind s p fun k y f1 s1 e1 p1 => p1 y rfl (Fr.refl T y) s1 e1
def xIf (c : M Bool) (a b : M D) : M D := mB c fun k => if k then a else b
theorem se_if {c a b : Expr} {pos : Pos} {fc : M Bool} {fa fb : M D} (hc : ST X W T c fc) (ha : SE X W T a fa) (hb : SE X W T b fb) : SE X W T (.IfExp c a b pos) (xIf fc fa fb) := by
  obtain ⟨tc, pc, ec⟩ := hc.ex
  obtain ⟨ta, pa, ea⟩ := ha.ex
  obtain ⟨tb, pb, eb⟩ := hb.ex
  refine ⟨_, pe_ifExp pc pa pb, fun x Q s p => ?_⟩
  refine ec.bind s p fun k y f1 s1 e1 p1 => ?_
  cases k with
  | true =>
    show ta x.s y.H Q
    rw [← e1]
    exact ea y Q s1 (p1.mono fun a z _ _ q e => q (e.trans e1))
  | false =>
    show tb x.s y.H Q
    rw [← e1]
    exact eb y Q s1 (p1.mono fun a z _ _ q e => q (e.trans e1))
def negD : D → Option D
  | .int i => some (.int (-i))
  | _ => none
def x1 (o : D → Option D) (a : M D) : M D := mB a fun d => mO (o d)
theorem se_neg {a : Expr} {pos : Pos} {fa : M D} (ha : SE X W T a fa) : SE X W T (.UnaryOp .USub a pos) (x1 negD fa) := by
  obtain ⟨ta, pa, ea⟩ := ha.ex
  refine ⟨_, pe_un un_neg pa, fun x Q s p => ?_⟩
  refine ea.bind s p fun d y f1 s1 e1 v hv p1 => ?_
  cases d <;> try exact p1.elim
  cases hv
  exact ⟨_, rfl, p1 y rfl (Fr.refl T y) s1 e1 _ (.int _)⟩
/-! ### a chain of two comparisons -/
def xChain (o o' : D → D → Option D) (a b c : M D) : M D := mB a fun d => mB b fun e => mB (mO (o d e)) fun z => match z with
  | .bl k => if k then mB c fun g => mO (o' e g) else mP (.bl false)
  | _ => fun _ => .bad
theorem ev_chain {r r' : R2} {o o' : D → D → Option D} {ta tb tc : TE} {fa fb fc : M D} (ho : OpD X.K r o) (ho' : OpD X.K r' o')
    (ea : EvE X W T ta fa) (eb : EvE X W T tb fb) (ec : EvE X W T tc fc) : EvE X W T (tChain r r' ta tb tc) (xChain o o' fa fb fc) := by
  intro x Q s p
  refine ea.bind s p fun d y f1 s1 e1 v hv p1 => ?_
  show tb x.s y.H _
  rw [← e1]
  refine eb.bind s1 p1 fun e z f2 s2 e2 u hu p2 => ?_
  cases q : o d e with
  | none => rw [q] at p2; exact p2.elim
  | some w =>
    rw [q] at p2
    refine ho z v u d e w _ s2 (hv.mono f2.ff) hu q fun y2 w2 ex hw => ?_
    have p3 := p2.shift (ex.fr T)
    have s3 := ex.rst s2
    have e3 : y2.s = x.s := ex.s.trans (e2.trans e1)
    cases w <;> try exact p3.elim
    rename_i k
    cases hw
    refine ⟨k, rfl, ?_⟩
    cases k with
    | false =>
      show Q (.bl false) y2.H
      exact p3 y2 ex.r (Fr.refl T y2) s3 e3 _ (.bl _)
    | true =>
      show tc y.s y2.H _
      have e4 : y.s = y2.s := e1.trans e3.symm
      rw [e4]
      have p4 : Post X.K X.mg T W y2 (mB fc (fun g => mO (o' e g)) y2.r) (fun d y => y.s = x.s → ∀ v, Rep X.K y.F v d → Q v y.H) := by
        have : y2.r = z.r := ex.r
        rw [this]; exact p3
      refine ec.bind s3 p4 fun g y5 f5 s5 e5 w5 hw5 p5 => ?_
      cases q5 : o' e g with
      | none => rw [q5] at p5; exact p5.elim
      | some w6 =>
        rw [q5] at p5
        exact ho' y5 u w5 e g w6 Q s5 (hu.mono (ex.ff.trans f5.ff)) hw5 q5 fun y6 w7 ex6 hw7 => Post.here p5 ex6 s5 (ex6.s.trans (e5.trans e3)) w7 hw7
theorem se_chain {op op' : CmpOp} {r r' : R2} {o o' : D → D → Option D} {a b c : Expr} {pos : Pos} {fa fb fc : M D} (hr : OpR X (compareOp op) r) (hr' : OpR X (compareOp op') r') (ho : OpD X.K r o) (ho' : OpD X.K r' o')
    (ha : SE X W T a fa) (hb : SE X W T b fb) (hc : SE X W T c fc) (hm : lastMarks [op, op'] [b, c] = false := by with_unfolding_all rfl) : SE X W T (.Compare a [op, op'] [b, c] pos) (xChain o o' fa fb fc) := by
  obtain ⟨ta, pa, ea⟩ := ha.ex
  obtain ⟨tb, pb, eb⟩ := hb.ex
  obtain ⟨tc, pc, ec⟩ := hc.ex
  exact ⟨_, pe_chain hr hr' pa pb pc hm, ev_chain ho ho' ea eb ec⟩
theorem st_chain {op op' : CmpOp} {r r' : R2} {o o' : D → D → Option D} {a b c : Expr} {pos : Pos} {fa fb fc : M D} (hr : OpR X (compareOp op) r) (hr' : OpR X (compareOp op') r') (ho : OpD X.K r o) (ho' : OpD X.K r' o')
    (ha : SE X W T a fa) (hb : SE X W T b fb) (hc : SE X W T c fc) (hm : lastMarks [op, op'] [b, c] = false := by with_unfolding_all rfl) : ST X W T (.Compare a [op, op'] [b, c] pos) (mT (xChain o o' fa fb fc)) := by
  obtain ⟨ta, pa, ea⟩ := ha.ex
  obtain ⟨tb, pb, eb⟩ := hb.ex
  obtain ⟨tc, pc, ec⟩ := hc.ex
  exact ⟨_, pt_chain hr hr' pa pb pc hm, ev_test (ev_chain ho ho' ea eb ec)⟩
/-! ### rows of values -/
def EvD (X : Cx) (W : WX) (T : List Nat) (ta : TA) (f : M (List D)) : Prop := ∀ (x : Cf) (Q : List V → Hp → Prop), RSt X.K x → Post X.K X.mg T W x (f x.r) (fun ds y => y.s = x.s → ∀ vs, RepL X.K y.F vs ds → Q vs y.H) → ta x.s x.H Q
structure SD (X : Cx) (W : WX) (T : List Nat) (es : List Expr) (f : M (List D)) : Prop where
  ex : ∃ ta, PA X es ta ∧ EvD X W T ta f
def dCons (a : M D) (r : M (List D)) : M (List D) := mB a fun d => mB r fun ds => mP (d :: ds)
theorem sd_nil : SD X W T [] (mP []) := ⟨_, pa_nil, fun x Q s p => p x rfl (Fr.refl T x) s rfl [] .nil⟩
theorem EvD.bind {α : Type} {te : TA} {f : M (List D)} {k : List D → M α} {x : Cf} {Q : List V → Hp → Prop} {Qf : α → Cf → Prop} (h : EvD X W T te f) (s : RSt X.K x) (p : Post X.K X.mg T W x (mB f k x.r) Qf)
    (n : ∀ d y, Fr T x y → RSt X.K y → y.s = x.s → (∀ vs, RepL X.K y.F vs d → Post X.K X.mg T W y (k d y.r) Qf → Q vs y.H)) : te x.s x.H Q := by
  refine h x Q s ?_
  cases e : f x.r with
  | ok d ρ =>
    intro y hy fr sy hs vs hv
    refine n d y fr sy hs vs hv (Post.shift fr ?_)
    have e2 : mB f k x.r = k d y.r := by unfold mB; rw [e, hy]
    rw [← e2]; exact p
  | exc c pl ρ =>
    have e2 : mB f k x.r = .exc c pl ρ := by unfold mB; rw [e]
    rw [e2] at p; exact p
  | bad =>
    have e2 : mB f k x.r = .bad := by unfold mB; rw [e]
    rw [e2] at p; exact p
theorem sd_cons {e : Expr} {es : List Expr} {fa : M D} {fr : M (List D)} (ha : SE X W T e fa) (hr : SD X W T es fr) (hs : starEach (e :: es) X.env = (false, eval e X.env) :: starEach es X.env := by rfl) : SD X W T (e :: es) (dCons fa fr) := by
  obtain ⟨ta, pa, ea⟩ := ha.ex
  obtain ⟨tr, pr, er⟩ := hr.ex
  refine ⟨_, pa_cons pa pr hs, fun x Q s p => ?_⟩
  refine ea.bind s p fun d y f1 s1 e1 v hv p1 => ?_
  show tr x.s y.H _
  rw [← e1]
  exact er.bind s1 p1 fun ds z f2 s2 e2 vs hvs p2 => p2 z rfl (Fr.refl T z) s2 (e2.trans e1) (v :: vs) (.cons (hv.mono f2.ff) hvs)
def xTup (m : M (List D)) : M D := mB m fun ds => if decide (ds.length ≤ most) then mP (.tup ds) else fun _ => .bad
theorem se_tup {es : List Expr} {x1 pos} {f : M (List D)} (h : SD X W T es f) : SE X W T (.Tuple es x1 pos) (xTup f) := by
  obtain ⟨ta, pa, ea⟩ := h.ex
  refine ⟨_, pe_tup pa, fun x Q s p => ?_⟩
  refine ea.bind s p fun ds y f1 s1 e1 vs hv p1 => ?_
  by_cases c : decide (ds.length ≤ most) = true
  · rw [if_pos c] at p1
    refine ⟨by rw [hv.length]; exact of_most c, fun q hq => ?_⟩
    obtain ⟨h1, h2⟩ := ext_tup s1 hq hv
    exact Post.here p1 h1 s1 (h1.s.trans e1) _ h2
  · rw [if_neg c] at p1
    exact p1.elim
/-- a list that is new -/
def lLst (m : M (List D)) : M (List D) := mB m fun ds => if decide (ds.length ≤ most) then mP ds else fun _ => .bad
theorem RSt.at {x : Cf} (s : RSt K x) {i : Nat} {k : CK} {p : Addr} (h : CelAt x i k p) : ∃ ds us, x.r[i]? = some (.cel k ds) ∧ RepL K x.F us ds ∧ x.H p = some (.lst us) ∧ x.F p = none := by
  obtain ⟨⟨ds, h1⟩, h2⟩ := h
  obtain ⟨q, h3, us, h4, h5, h6⟩ := s.cel i k ds h1
  rw [h2] at h3
  cases h3
  exact ⟨ds, us, h1, h4, h5, h6⟩
theorem not_cel {x : Cf} {p : Addr} (s : RSt K x) (hp : x.H p = none) : ∀ i k, ¬ CelAt x i k p := fun i k h => by
  obtain ⟨ds, us, _, _, h5, _⟩ := s.at h
  rw [hp] at h5; cases h5
theorem el_lst {es : List Expr} {pos : Pos} {f : M (List D)} (h : SD X W T es f) : SL X W T (.List es pos) (lLst f) := by
  obtain ⟨ta, pa, ea⟩ := h.ex
  refine ⟨_, pe_lst pa, fun x Q s p => ?_⟩
  refine ea.bind s p fun ds y f1 s1 e1 vs hv p1 => ?_
  by_cases c : decide (ds.length ≤ most) = true
  · rw [if_pos c] at p1
    refine ⟨by rw [hv.length]; exact of_most c, fun q hq => ?_⟩
    have ex := Ext.raw (o := .lst vs) s1 hq
    exact Post.here p1 ex s1 (ex.s.trans e1) q vs ⟨upd_same, s1.sub.free hq, hv⟩ (f1.dm q hq) (fun i k z => not_cel s1 hq i k z)
  · rw [if_neg c] at p1
    exact p1.elim
/-- a new list, frozen -/
def xFz (m : M (List D)) : M D := mB m fun ds => mP (.lst ds)
theorem EvL.fz {te : TE} {f : M (List D)} (ev : EvL X W T te f) : EvE X W T te (xFz f) := by
  refine fun x Q s p => ev x Q s ?_
  cases e : f x.r with
  | ok ds ρ =>
    have e2 : xFz f x.r = .ok (.lst ds) ρ := by unfold xFz mB mP; rw [e]
    rw [e2] at p
    intro y hy fr sy hs q us hq hn hc
    obtain ⟨h1, h2, h3⟩ := hq
    have hz : Fr T x ⟨upd y.F q (.lst us), y.H, y.s, y.r⟩ := ⟨fr.ln, fr.ff.trans (same_upd h2), fr.dm, fun a o h => by
        by_cases ha : a = q
        · subst ha; exact .inr (.inl hn)
        · exact fr.nw a o (by rw [← h]; exact (upd_ne ha).symm), fr.hp, fr.cc, fr.un⟩
    refine p ⟨upd y.F q (.lst us), y.H, y.s, y.r⟩ hy hz ⟨fun a o h => ?_, sy.len, fun i d h => ?_, fun i k es h => ?_, sy.dis⟩ hs (.ref q) (.lst upd_same (h3.mono (same_upd h2)))
    · by_cases ha : a = q
      · subst ha
        have h' : upd y.F a (HO.lst us) a = some o := h
        rw [upd_same] at h'
        cases h'
        exact h1
      · exact sy.sub a o (by rw [← h]; exact (upd_ne ha).symm)
    · obtain ⟨v, g1, g2⟩ := sy.val i d h
      exact ⟨v, g1, g2.mono (same_upd h2)⟩
    · obtain ⟨r, g1, ws, g2, g3, g4⟩ := sy.cel i k es h
      refine ⟨r, g1, ws, g2.mono (same_upd h2), g3, ?_⟩
      have : r ≠ q := fun z => hc i k ⟨⟨es, h⟩, by rw [← z]; exact g1⟩
      show upd y.F q _ r = none
      rw [upd_ne this]; exact g4
  | exc c pl ρ =>
    have e2 : xFz f x.r = .exc c pl ρ := by unfold xFz mB; rw [e]
    rw [e2] at p; exact p
  | bad =>
    have e2 : xFz f x.r = .bad := by unfold xFz mB; rw [e]
    rw [e2] at p; exact p
theorem SL.se {e : Expr} {f : M (List D)} (h : SL X W T e f) : SE X W T e (xFz f) := by
  obtain ⟨te, pe, ev⟩ := h.ex
  exact ⟨te, pe, ev.fz⟩
end
end FL
namespace FL
open PySem PySem.Spec L2
section
variable {X : Cx} {W : WX} {T : List Nat} {K : PySem.W.Frag}
/-! ### places -/
theorem RepL.atI {F : Hp} {vs : List V} {ds : List D} (r : RepL K F vs ds) {i : Int} {d : D} (h : L2.atI ds i = some d) : ∃ v, L2.atI vs i = some v ∧ Rep K F v d := by
  unfold L2.atI at h ⊢
  rw [r.length]
  cases q : ixN ds.length i with
  | none => rw [q] at h; cases h
  | some j => rw [q] at h; exact r.get h
def ixD : D → D → Option D
  | .tup ds, .int i => L2.atI ds i
  | .lst ds, .int i => L2.atI ds i
  | .scr ds, .int i => L2.atI ds i
  | .str z, .int i => if decide (z.length ≤ most) then (L2.atI z.cps.toList i).map fun c => .str ⟨#[c]⟩ else none
  | _, _ => none
theorem opd_ix : OpD K (rIx K) ixD := by
  intro x v u d e z Q s hv hu q k
  obtain ⟨i, rfl⟩ : ∃ i, e = .int i := by cases d <;> cases e <;> simp [ixD] at q <;> exact ⟨_, rfl⟩
  cases hu
  cases hv <;> try (simp [ixD] at q; done)
  · simp only [ixD] at q
    split at q
    · rename_i y c
      cases w : L2.atI y.cps.toList i with
      | none => rw [w] at q; cases q
      | some c' =>
        rw [w] at q
        cases q
        exact .inr (.inr ⟨_, _, _, rfl, rfl, of_most c, w, k x _ (Ext.refl s) (.str _)⟩)
    · cases q
  · rename_i ha r
    obtain ⟨w, h1, h2⟩ := r.atI q
    exact .inr (.inl ⟨_, _, _, _, rfl, rfl, sameT s.sub ha, h1, k x _ (Ext.refl s) h2⟩)
  · rename_i ha r
    obtain ⟨w, h1, h2⟩ := r.atI q
    exact .inl ⟨_, _, _, _, rfl, rfl, SqL.of (s.sub _ _ ha), h1, k x _ (Ext.refl s) h2⟩
  · rename_i ha r
    obtain ⟨w, h1, h2⟩ := r.atI q
    exact .inl ⟨_, _, _, _, rfl, rfl, s.sub.seq ha, h1, k x _ (Ext.refl s) h2⟩
theorem se_ix {a b : Expr} {pos : Pos} {fa fb : M D} (ha : SE X W T a fa) (hb : SE X W T b fb) (hs : PlainIx b := by intro _ _; rfl) : SE X W T (.Subscript a b pos) (x2 ixD fa fb) := by
  obtain ⟨ta, pa, ea⟩ := ha.ex
  obtain ⟨tb, pb, eb⟩ := hb.ex
  exact ⟨_, pe_ix ix_seq pa pb hs, ev_op opd_ix ea eb⟩
/-! ### cuts -/
structure SO (X : Cx) (W : WX) (T : List Nat) (e : Option Expr) (f : M (Option Int)) : Prop where
  ex : ∃ t, PO X e t ∧ ∀ (x : Cf) (Q : Option Int → Hp → Prop), RSt X.K x → Post X.K X.mg T W x (f x.r) (fun o y => y.s = x.s → Q o y.H) → t x.s x.H Q
theorem so_none : SO X W T none (mP none) := ⟨_, po_none, fun x Q s p => p x rfl (Fr.refl T x) s rfl⟩
def oInt (m : M D) : M (Option Int) := mB m fun d => match d with
  | .int i => mP (some i)
  | _ => fun _ => .bad
theorem so_some {e : Expr} {f : M D} (h : SE X W T e f) : SO X W T (some e) (oInt f) := by
  obtain ⟨te, pe, ev⟩ := h.ex
  refine ⟨_, po_some pe, fun x Q s p => ?_⟩
  refine ev.bind s p fun d y f1 s1 e1 v hv p1 => ?_
  cases d <;> try exact p1.elim
  cases hv
  exact ⟨_, rfl, p1 y rfl (Fr.refl T y) s1 e1⟩
def cutDs (ds : List D) (lo hi : Option Int) : List D := (ds.drop (HT.sIx ds.length 0 lo)).take (HT.sIx ds.length ds.length hi - HT.sIx ds.length 0 lo)
theorem RepL.cut {F : Hp} {vs : List V} {ds : List D} (r : RepL K F vs ds) (lo hi : Option Int) : RepL K F (cutV vs lo hi) (cutDs ds lo hi) := by
  unfold cutV cutDs
  rw [r.length]
  exact (r.drop _).take _
def cutD (d : D) (lo hi : Option Int) : Option D := match d with
  | .tup ds => some (.tup (cutDs ds lo hi))
  | .lst ds => some (.lst (cutDs ds lo hi))
  | .scr ds => some (.lst (cutDs ds lo hi))
  | _ => none
def xCut (a : M D) (lo hi : M (Option Int)) : M D := mB a fun d => mB lo fun l => mB hi fun h => mO (cutD d l h)
theorem whole_cut {ds : List D} {lo hi : Option Int} (h : HT.sIx ds.length 0 lo = 0 ∧ HT.sIx ds.length ds.length hi = ds.length) : cutDs ds lo hi = ds := by
  unfold cutDs
  rw [h.1, h.2, Nat.sub_zero, List.drop_zero, List.take_length]
theorem se_cut {a : Expr} {lo hi : Option Expr} {p2 pos : Pos} {fa : M D} {fl fh : M (Option Int)} (ha : SE X W T a fa) (hl : SO X W T lo fl) (hh : SO X W T hi fh) : SE X W T (.Subscript a (.Slice lo hi none p2) pos) (xCut fa fl fh) := by
  obtain ⟨ta, pa, ea⟩ := ha.ex
  obtain ⟨tl, pl, el⟩ := hl.ex
  obtain ⟨th, ph, eh⟩ := hh.ex
  refine ⟨_, pe_slice (SlR.or sl_tupA sl_list) pa pl ph, fun x Q s p => ?_⟩
  refine ea.bind s p fun d y f1 s1 e1 v hv p1 => ?_
  show tl x.s y.H _
  rw [← e1]
  refine el y _ s1 ?_
  cases q1 : fl y.r with
  | bad => have e2 : mB fl (fun l => mB fh fun h => mO (cutD d l h)) y.r = .bad := by { unfold mB; rw [q1] }; rw [e2] at p1; exact p1.elim
  | exc c pl ρ =>
    have e2 : mB fl (fun l => mB fh fun h => mO (cutD d l h)) y.r = .exc c pl ρ := by unfold mB; rw [q1]
    rw [e2] at p1; exact p1
  | ok l ρ =>
    have e2 : mB fl (fun l => mB fh fun h => mO (cutD d l h)) y.r = mB fh (fun h => mO (cutD d l h)) ρ := by rw [mB]; simp only [q1]
    rw [e2] at p1
    intro z hz fz sz ez
    rw [← hz] at p1
    have p2 := p1.shift fz
    show th y.s z.H _
    rw [← ez]
    refine eh z _ sz ?_
    cases q2 : fh z.r with
    | bad => have e3 : mB fh (fun h => mO (cutD d l h)) z.r = .bad := by { unfold mB; rw [q2] }; rw [e3] at p2; exact p2.elim
    | exc c pl ρ =>
      have e3 : mB fh (fun h => mO (cutD d l h)) z.r = .exc c pl ρ := by unfold mB; rw [q2]
      rw [e3] at p2; exact p2
    | ok h ρ' =>
      have e3 : mB fh (fun h => mO (cutD d l h)) z.r = mO (cutD d l h) ρ' := by rw [mB]; simp only [q2]
      rw [e3] at p2
      intro w hw fw sw ew
      have hs : w.s = x.s := ew.trans (ez.trans e1)
      cases q3 : cutD d l h with
      | none => rw [q3] at p2; exact p2.elim
      | some g =>
        rw [q3, ← hw] at p2
        have p3 := p2.shift fw
        have hv' := hv.mono (fz.ff.trans fw.ff)
        cases hv' <;> try (simp [cutD] at q3; done)
        · rename_i vs ds ha r
          cases q3
          refine .inl ⟨_, _, rfl, sameT sw.sub ha, fun c => ?_, fun _ q hq => ?_⟩
          · rw [r.length] at c
            refine p3 w rfl (Fr.refl T w) sw hs _ ?_
            rw [whole_cut c]
            exact .tup ha r
          · obtain ⟨h1, h2⟩ := ext_tup sw hq (r.cut l h)
            exact Post.here p3 h1 sw (h1.s.trans hs) _ h2
        · rename_i vs ds ha r
          cases q3
          refine .inr ⟨_, _, rfl, SqL.of (sw.sub _ _ ha), fun q hq => ?_⟩
          obtain ⟨h1, h2⟩ := ext_lst sw hq (r.cut l h)
          exact Post.here p3 h1 sw (h1.s.trans hs) _ h2
        · rename_i vs ds ha r
          cases q3
          refine .inr ⟨_, _, rfl, sw.sub.seq ha, fun q hq => ?_⟩
          obtain ⟨h1, h2⟩ := ext_lst sw hq (r.cut l h)
          exact Post.here p3 h1 sw (h1.s.trans hs) _ h2
/-! ### a list of one's own, read as a value -/
mutual
/-- no list within -/
def noLst : D → Bool
  | .non => true
  | .bl _ => true
  | .int _ => true
  | .str _ => true
  | .tup ds => noLsts ds
  | .lst _ => false
  | .scr _ => false
  | .dct _ => false
  | .opq _ => true
  | .dfn _ => true
def noLsts : List D → Bool
  | [] => true
  | d :: ds => noLst d && noLsts ds
end
/-- without the address p -/
def cutH (F : Hp) (p : Addr) : Hp := fun a => if a = p then none else F a
theorem cutH_ne {F : Hp} {p a : Addr} (h : a ≠ p) : cutH F p a = F a := if_neg h
theorem cutH_same {F : Hp} {p : Addr} : cutH F p p = none := if_pos rfl
theorem sqT_cut {F : Hp} {p a : Addr} {vs us : List V} (hp : F p = some (.lst us)) (h : SqT K F a vs) : SqT K (cutH F p) a vs := by
  rcases h with (h | ⟨o, h⟩) | h
  · refine .inl (.inl ?_)
    rw [cutH_ne (by rintro rfl; rw [hp] at h; cases h)]
    exact h
  · refine .inl (.inr ⟨o, ?_⟩)
    rw [cutH_ne (by rintro rfl; rw [hp] at h; cases h)]
    exact h
  · exact .inr h
mutual
theorem rep_cut {F : Hp} {p : Addr} {us : List V} (hp : F p = some (.lst us)) : ∀ {v : V} {d : D}, Rep K F v d → noLst d = true → Rep K (cutH F p) v d
  | _, _, .non, _ => .non
  | _, _, .bl b, _ => .bl b
  | _, _, .int i, _ => .int i
  | _, _, .str x, _ => .str x
  | _, _, .tup h r, e => .tup (sqT_cut hp h) (repL_cut hp r e)
  | _, _, .lst _ _, e => nomatch e
  | _, _, .scr _ _, e => nomatch e
  | _, _, .dct _ _, e => nomatch e
  | _, _, .opq v, _ => .opq v
  | _, _, .dfn h, _ => .dfn h
theorem repL_cut {F : Hp} {p : Addr} {us : List V} (hp : F p = some (.lst us)) : ∀ {vs : List V} {ds : List D}, RepL K F vs ds → noLsts ds = true → RepL K (cutH F p) vs ds
  | _, _, .nil, _ => .nil
  | _, _, .cons h r, e => by
    unfold noLsts at e
    obtain ⟨e1, e2⟩ := Bool.and_eq_true_iff.mp e
    exact .cons (rep_cut hp h e1) (repL_cut hp r e2)
end
/-- slot j's list at p lent -/
def lent (x : Cf) (j : Nat) (p : Addr) (us : List V) (ds : List D) : Cf := ⟨upd x.F p (.lst us), x.H, x.s, x.r.set j (.val (.lst ds))⟩
theorem set_get {α : Type} {l : List α} {i j : Nat} {a b : α} (h : (l.set i a)[j]? = some b) : (i = j ∧ a = b) ∨ (i ≠ j ∧ l[j]? = some b) := by
  by_cases e : i = j
  · subst e
    by_cases hl : i < l.length
    · rw [List.getElem?_set_self hl] at h
      exact .inl ⟨rfl, Option.some.inj h⟩
    · rw [List.getElem?_eq_none (by simpa using hl)] at h; cases h
  · rw [List.getElem?_set_ne e] at h
    exact .inr ⟨e, h⟩
theorem lent_cel {x : Cf} {j : Nat} {p : Addr} {us : List V} {ds : List D} {i : Nat} {k : CK} {q : Addr} (h : CelAt (lent x j p us ds) i k q) : i ≠ j ∧ CelAt x i k q := by
  obtain ⟨⟨es, h1⟩, h2⟩ := h
  rcases set_get (show (x.r.set j (.val (.lst ds)))[i]? = some (.cel k es) from h1) with ⟨_, e⟩ | ⟨e, g⟩
  · cases e
  · exact ⟨Ne.symm e, ⟨es, g⟩, h2⟩
theorem lent_ok {x : Cf} {j : Nat} {p : Addr} {us : List V} {ds : List D} {k : CK} (s : RSt K x) (h : x.r[j]? = some (.cel k ds)) (hs : x.s[j]? = some (some (.ref p))) (r : RepL K x.F us ds) (hp : x.H p = some (.lst us)) (fp : x.F p = none) : RSt K (lent x j p us ds) where
  sub := fun a o e => by
    by_cases ha : a = p
    · subst ha
      have e' : upd x.F a (HO.lst us) a = some o := e
      rw [upd_same] at e'; cases e'
      exact hp
    · exact s.sub a o (by rw [← e]; exact (upd_ne ha).symm)
  len := by show x.s.length = (x.r.set j _).length; rw [List.length_set]; exact s.len
  val := fun i d e => by
    rcases set_get (show (x.r.set j (.val (.lst ds)))[i]? = some (.val d) from e) with ⟨e1, e2⟩ | ⟨e1, e2⟩
    · subst e1
      cases e2
      exact ⟨.ref p, hs, .lst upd_same (r.mono (same_upd fp))⟩
    · obtain ⟨v, h1, h2⟩ := s.val i d e2
      exact ⟨v, h1, h2.mono (same_upd fp)⟩
  cel := fun i k' es e => by
    rcases set_get (show (x.r.set j (.val (.lst ds)))[i]? = some (.cel k' es) from e) with ⟨e1, e2⟩ | ⟨e1, e2⟩
    · cases e2
    · obtain ⟨q, h1, ws, h2, h3, h4⟩ := s.cel i k' es e2
      refine ⟨q, h1, ws, h2.mono (same_upd fp), h3, ?_⟩
      have ne : q ≠ p := fun z => e1 (s.dis j i k k' p ⟨⟨ds, h⟩, hs⟩ ⟨⟨es, e2⟩, by rw [← z]; exact h1⟩)
      show upd x.F p _ q = none
      rw [upd_ne ne]; exact h4
  dis := fun i j' k' l q h1 h2 => s.dis i j' k' l q (lent_cel h1).2 (lent_cel h2).2
/-- what the touched slots may hold when the list comes back -/
def okT (T : List Nat) (r : List Ent) : Bool := T.all fun i => match r[i]? with
  | some (.val d) => noLst d
  | some (.cel _ ds) => noLsts ds
  | _ => true
/-- .. and taken back -/
def back (y : Cf) (j : Nat) (p : Addr) (k : CK) (ds : List D) : Cf := ⟨cutH y.F p, y.H, y.s, y.r.set j (.cel k ds)⟩
theorem back_ok {T : List Nat} {x y : Cf} {j : Nat} {p : Addr} {us : List V} {ds : List D} {k : CK} (s : RSt K x) (h : x.r[j]? = some (.cel k ds)) (hs : x.s[j]? = some (some (.ref p))) (r : RepL K x.F us ds) (hp : x.H p = some (.lst us)) (fp : x.F p = none)
    (f : Fr T (lent x j p us ds) y) (sy : RSt K y) (hj : j ∉ T) (ht : okT T y.r = true) : Fr T x (back y j p k ds) ∧ RSt K (back y j p k ds) := by
  have yp : y.F p = some (.lst us) := f.ff p _ upd_same
  have lj : j < x.r.length := (List.getElem?_eq_some_iff.mp h).1
  have lenr : y.r.length = x.r.length := f.ln.trans (by show (x.r.set j _).length = _; rw [List.length_set])
  have lty : j < y.r.length := by rw [lenr]; exact lj
  have ysj : y.s[j]? = some (some (.ref p)) := (f.un j hj).2.trans hs
  have yH : y.H p = some (.lst us) := sy.sub p _ yp
  have celb : ∀ i l q, CelAt (back y j p k ds) i l q → (i = j ∧ l = k ∧ q = p) ∨ (i ≠ j ∧ CelAt y i l q) := fun i l q ⟨⟨es, h1⟩, h2⟩ => by
    rcases set_get (show (y.r.set j (.cel k ds))[i]? = some (.cel l es) from h1) with ⟨e1, e2⟩ | ⟨e1, e2⟩
    · subst e1
      cases e2
      have h2' : y.s[j]? = some (some (.ref q)) := h2
      rw [ysj] at h2'
      cases h2'
      exact .inl ⟨rfl, rfl, rfl⟩
    · exact .inr ⟨Ne.symm e1, ⟨es, e2⟩, h2⟩
  have celx : CelAt x j k p := ⟨⟨ds, h⟩, hs⟩
  have yne : ∀ i l q, CelAt y i l q → q ≠ p := fun i l q c z => by
    obtain ⟨_, _, _, _, _, g⟩ := sy.at c
    rw [z, yp] at g; cases g
  constructor
  · refine ⟨by show (y.r.set j _).length = _; rw [List.length_set]; exact lenr, fun a o e => ?_, f.dm, fun a o e => ?_, fun a o e n => ?_, fun i l q c => ?_, fun i hi => ?_⟩
    · have ne : a ≠ p := by rintro rfl; rw [fp] at e; cases e
      show cutH y.F p a = some o
      rw [cutH_ne ne]
      exact f.ff a o (by show upd x.F p _ a = some o; rw [upd_ne ne]; exact e)
    · have e' : cutH y.F p a = some o := e
      have ne : a ≠ p := by rintro rfl; rw [cutH_same] at e'; cases e'
      rw [cutH_ne ne] at e'
      rcases f.nw a o e' with ⟨u, g⟩ | g | ⟨i, g⟩
      · exact .inl ⟨u, by rw [← g]; exact (upd_ne ne).symm⟩
      · exact .inr (.inl g)
      · exact .inr (.inr ⟨i, (lent_cel g).2⟩)
    · exact f.hp a o e fun i hi l c => n i hi l (lent_cel c).2
    · rcases celb i l q c with ⟨rfl, rfl, rfl⟩ | ⟨ne, c'⟩
      · exact .inr celx
      · rcases f.cc i l q c' with g | g
        · exact .inl g
        · exact .inr (lent_cel g).2
    · show (y.r.set j _)[i]? = _ ∧ _
      by_cases e : i = j
      · subst e
        rw [List.getElem?_set_self lty]
        exact ⟨h.symm, (f.un i hi).2⟩
      · rw [List.getElem?_set_ne (Ne.symm e)]
        refine ⟨(f.un i hi).1.trans ?_, (f.un i hi).2⟩
        show (x.r.set j _)[i]? = _
        rw [List.getElem?_set_ne (Ne.symm e)]
  · refine ⟨fun a o e => ?_, by show y.s.length = (y.r.set j _).length; rw [List.length_set]; exact sy.len, fun i d e => ?_, fun i l es e => ?_, fun i m l l' q c c' => ?_⟩
    · have e' : cutH y.F p a = some o := e
      have ne : a ≠ p := by rintro rfl; rw [cutH_same] at e'; cases e'
      rw [cutH_ne ne] at e'
      exact sy.sub a o e'
    · rcases set_get (show (y.r.set j (.cel k ds))[i]? = some (.val d) from e) with ⟨_, e2⟩ | ⟨e1, e2⟩
      · cases e2
      · by_cases hi : i ∈ T
        · obtain ⟨v, h1, h2⟩ := sy.val i d e2
          have := List.all_eq_true.mp ht i hi
          rw [e2] at this
          exact ⟨v, h1, rep_cut yp h2 this⟩
        · obtain ⟨g1, g2⟩ := f.un i hi
          rw [e2] at g1
          have g3 : x.r[i]? = some (.val d) := by
            rw [g1]
            show x.r[i]? = (x.r.set j _)[i]?
            rw [List.getElem?_set_ne e1]
          obtain ⟨v, h1, h2⟩ := s.val i d g3
          refine ⟨v, g2.trans h1, h2.mono fun a o ea => ?_⟩
          have ne : a ≠ p := by rintro rfl; rw [fp] at ea; cases ea
          show cutH y.F p a = some o
          rw [cutH_ne ne]
          exact f.ff a o (by show upd x.F p _ a = some o; rw [upd_ne ne]; exact ea)
    · rcases set_get (show (y.r.set j (.cel k ds))[i]? = some (.cel l es) from e) with ⟨e1, e2⟩ | ⟨e1, e2⟩
      · subst e1
        cases e2
        exact ⟨p, ysj, us, r.mono fun a o ea => by
          have ne : a ≠ p := by rintro rfl; rw [fp] at ea; cases ea
          show cutH y.F p a = some o
          rw [cutH_ne ne]
          exact f.ff a o (by show upd x.F p _ a = some o; rw [upd_ne ne]; exact ea), yH, cutH_same⟩
      · obtain ⟨q, h1, ws, h2, h3, h4⟩ := sy.cel i l es e2
        have qp : q ≠ p := yne i l q ⟨⟨es, e2⟩, h1⟩
        refine ⟨q, h1, ws, ?_, h3, by show cutH y.F p q = none; rw [cutH_ne qp]; exact h4⟩
        by_cases hi : i ∈ T
        · have := List.all_eq_true.mp ht i hi
          rw [e2] at this
          exact repL_cut yp h2 this
        · obtain ⟨g1, g2⟩ := f.un i hi
          rw [e2] at g1
          have g3 : x.r[i]? = some (.cel l es) := by
            rw [g1]
            show x.r[i]? = (x.r.set j _)[i]?
            rw [List.getElem?_set_ne e1]
          obtain ⟨q', k1, ws', k2, k3, k4⟩ := s.cel i l es g3
          rw [g2, show (lent x j p us ds).s[i]? = x.s[i]? from rfl, k1] at h1
          cases h1
          -- the same list stands there
          have hk : y.H q = some (.lst ws') := by
            refine f.hp q _ k3 fun i' hi' l' c => ?_
            have := s.dis i' i l' l q (lent_cel c).2 ⟨⟨es, g3⟩, k1⟩
            exact hi (this ▸ hi')
          rw [h3] at hk
          cases hk
          exact k2.mono fun a o ea => by
            have ne : a ≠ p := by rintro rfl; rw [fp] at ea; cases ea
            show cutH y.F p a = some o
            rw [cutH_ne ne]
            exact f.ff a o (by show upd x.F p _ a = some o; rw [upd_ne ne]; exact ea)
    · rcases celb i l q c with ⟨a1, a2, a3⟩ | ⟨ne, c1⟩
      · rcases celb m l' q c' with ⟨b1, b2, b3⟩ | ⟨ne', c2⟩
        · rw [a1, b1]
        · exact absurd a3 (yne m l' q c2)
      · rcases celb m l' q c' with ⟨b1, b2, b3⟩ | ⟨ne', c2⟩
        · exact absurd b3 (yne i l q c1)
        · exact sy.dis i m l l' q c1 c2
/-- m runs while slot j's list is lent -/
def lend {α : Type} (T : List Nat) (j : Nat) (okA : α → Bool) (m : M α) : M α := fun r => match r[j]? with
  | some (.cel k ds) => match m (r.set j (.val (.lst ds))) with
    | .ok a r' => if okA a && okT T r' then .ok a (r'.set j (.cel k ds)) else .bad
    | _ => .bad
  | _ => .bad
theorem lend_run {S : List Nat} (hS : ∀ i ∈ S, i ∈ T) {j : Nat} (hj : j ∉ S) {α : Type} {okA : α → Bool} {m : M α} {x : Cf} {Q : α → Cf → Prop} (s : RSt X.K x) (p : Post X.K X.mg T W x (lend S j okA m x.r) Q) :
    ∃ k ds pa us, x.r[j]? = some (.cel k ds) ∧ x.s[j]? = some (some (.ref pa)) ∧ RSt X.K (lent x j pa us ds) ∧ Post X.K X.mg S W (lent x j pa us ds) (m (lent x j pa us ds).r) fun a y => okA a = true ∧ y.F pa = some (.lst us) ∧ Q a (back y j pa k ds) := by
  unfold lend at p
  split at p
  · rename_i k ds e
    obtain ⟨pa, h1, us, h2, h3, h4⟩ := s.cel j k ds e
    refine ⟨k, ds, pa, us, e, h1, lent_ok s e h1 h2 h3 h4, ?_⟩
    show Post X.K X.mg S W (lent x j pa us ds) (m (x.r.set j (.val (.lst ds)))) _
    cases q : m (x.r.set j (.val (.lst ds))) with
    | ok a r' =>
      rw [q] at p
      simp only at p
      split at p
      · rename_i c
        obtain ⟨c1, c2⟩ := Bool.and_eq_true_iff.mp c
        intro y hy fy sy
        rw [← hy] at c2 p
        obtain ⟨b1, b2⟩ := back_ok s e h1 h2 h3 h4 fy sy hj c2
        exact ⟨c1, fy.ff pa _ upd_same, p (back y j pa k ds) rfl (b1.mono hS) b2⟩
      · exact p.elim
    | exc c pl r' => rw [q] at p; exact p.elim
    | bad => rw [q] at p; exact p.elim
  · exact p.elim
theorem se_lend {S : List Nat} (j : Nat) {e : Expr} {m : M D} (h : SE X W S e m) (hS : ∀ i ∈ S, i ∈ T := by decide) (hj : j ∉ S := by decide) : SE X W T e (lend S j noLst m) := by
  obtain ⟨te, pe, ev⟩ := h.ex
  refine ⟨te, pe, fun x Q s p => ?_⟩
  obtain ⟨k, ds, pa, us, h1, h2, s1, p1⟩ := lend_run hS hj s p
  have := ev (lent x j pa us ds) Q s1 (p1.mono fun a y fy sy ⟨c1, c2, q⟩ hs v hv => q hs v (rep_cut c2 hv c1))
  exact this
theorem st_lend {S : List Nat} (j : Nat) {e : Expr} {m : M Bool} (h : ST X W S e m) (hS : ∀ i ∈ S, i ∈ T := by decide) (hj : j ∉ S := by decide) : ST X W T e (lend S j (fun _ => true) m) := by
  obtain ⟨te, pe, ev⟩ := h.ex
  refine ⟨te, pe, fun x Q s p => ?_⟩
  obtain ⟨k, ds, pa, us, h1, h2, s1, p1⟩ := lend_run hS hj s p
  have := ev (lent x j pa us ds) Q s1 (p1.mono fun a y fy sy ⟨c1, c2, q⟩ hs => q hs)
  exact this
/-! ### a list of one's own, frozen from here on -/
def frz {α : Type} (j : Nat) (m : M α) : M α := fun r => match r[j]? with
  | some (.cel .own ds) => m (r.set j (.val (.lst ds)))
  | _ => .bad
theorem frz_run {j : Nat} (hj : j ∈ T) {α : Type} {m : M α} {x : Cf} {Q : α → Cf → Prop} (s : RSt X.K x) (p : Post X.K X.mg T W x (frz j m x.r) Q) :
    ∃ y, y.s = x.s ∧ y.H = x.H ∧ Fr T x y ∧ RSt X.K y ∧ Post X.K X.mg T W y (m y.r) Q := by
  unfold frz at p
  split at p
  · rename_i ds e
    obtain ⟨pa, h1, us, h2, h3, h4⟩ := s.cel j _ ds e
    have f : Fr T x (lent x j pa us ds) := by
      refine ⟨by show (x.r.set j _).length = _; rw [List.length_set], same_upd h4, fun _ h => h, fun a o ea => ?_, fun a o ea _ => ea, fun i l q c => .inr (lent_cel c).2, fun i hi => ?_⟩
      · by_cases ha : a = pa
        · subst ha
          exact .inr (.inr ⟨j, ⟨ds, e⟩, h1⟩)
        · exact .inl ⟨o, by rw [← ea]; exact (upd_ne ha).symm⟩
      · refine ⟨?_, rfl⟩
        show (x.r.set j _)[i]? = _
        rw [List.getElem?_set_ne (by rintro rfl; exact hi hj)]
    exact ⟨lent x j pa us ds, rfl, rfl, f, lent_ok s e h1 h2 h3 h4, p.shift f⟩
  · exact p.elim
theorem se_frz (j : Nat) {e : Expr} {m : M D} (h : SE X W T e m) (hj : j ∈ T := by decide) : SE X W T e (frz j m) := by
  obtain ⟨te, pe, ev⟩ := h.ex
  refine ⟨te, pe, fun x Q s p => ?_⟩
  obtain ⟨y, e1, e2, f, sy, p1⟩ := frz_run hj s p
  rw [← e1, ← e2]
  exact ev y Q sy (p1.mono fun a z _ _ q hs => q (hs.trans e1))
end
end FL
namespace FL
open PySem PySem.Spec L2
/-! ### what a def promises -/
def outR (io : Option Nat) (r outs : List Ent) : List Ent := match io, outs with
  | some i, [e] => r.set i e
  | _, _ => r
def NewL (K : PySem.W.Frag) (x y : Cf) (p : Addr) (ds : List D) : Prop := ∃ us, FreshAt K y p us ds ∧ x.H p = none ∧ ∀ i k, ¬ CelAt y i k p
def RetR (K : PySem.W.Frag) (fr : Bool) (x y : Cf) (v : V) (d : D) : Prop := if fr then ∃ p ds, v = .ref p ∧ d = .lst ds ∧ ∃ us, FreshAt K y p us ds ∧ x.H p = none else Rep K y.F v d
def PostF (K : PySem.W.Frag) (mg : Str → Option Value) (io : Option Nat) (fr : Bool) (x : Cf) (r : R D) (Q : VK) (E : XK) : Prop := match r with
  | .ok d outs => ∀ y : Cf, y.s = x.s → y.r = outR io x.r outs → Fr io.toList x y → RSt K y → ∀ v, RetR K fr x y v d → Q v y.H
  | .exc c pl outs => ∀ (y : Cf) (cls : Value) (dx : Option Addr), y.s = x.s → y.r = outR io x.r outs → Fr io.toList x y → RSt K y → ExcRep K mg y c pl cls dx → E cls dx y.H
  | .bad => False
def SpF (K : PySem.W.Frag) (mg : Str → Option Value) (io : Option Nat) (fr : Bool) (np : Nat) (f : List Ent → R D) : Sp := fun vs H Q E =>
  vs.length = np ∧ ∃ x : Cf, x.H = H ∧ x.s = vs.map some ∧ RSt K x ∧ (∀ i k p, CelAt x i k p → io = some i ∧ k = .io) ∧ PostF K mg io fr x (f x.r) Q E
structure DefOk (P : Program) (w : World) (K : PySem.W.Frag) (mg : Str → Option Value) (base : Heap) (x : Str) (st : Stmt) (ps : List Str) (k : Nat) (io : Option Nat) (fr : Bool) (F : List Ent → R D) : Prop where
  ex : ∃ f fd, mg x = some (.ref f) ∧ PySem.W.keepIn K (.ref f) = true ∧ Fun K x x st f fd ∧ FnOk P w K mg base (L2.CX P w) k f fd ps (SpF K mg io fr ps.length F) ∧ Binds K fd ps []
section
variable {X : Cx} {W : WX} {T : List Nat} {K : PySem.W.Frag}
/-! ### calls -/
theorem WE_eq (W : WX) (σ : L2.St) : WE W σ = fun cls d H => W cls d σ H := rfl
/-- the callee's state: all values -/
def valsOf (ds : List D) : List Ent := ds.map .val
theorem valsOf_get {ds : List D} {i : Nat} {e : Ent} (h : (valsOf ds)[i]? = some e) : ∃ d, ds[i]? = some d ∧ e = .val d := by
  unfold valsOf at h
  rw [List.getElem?_map] at h
  cases q : ds[i]? with
  | none => rw [q] at h; cases h
  | some d => rw [q] at h; exact ⟨d, rfl, (Option.some.inj h).symm⟩
theorem enter_ok {y : Cf} {vs : List V} {ds : List D} (s : RSt K y) (r : RepL K y.F vs ds) : RSt K ⟨y.F, y.H, vs.map some, valsOf ds⟩ ∧ ∀ i k p, ¬ CelAt ⟨y.F, y.H, vs.map some, valsOf ds⟩ i k p := by
  have nc : ∀ i k p, ¬ CelAt ⟨y.F, y.H, vs.map some, valsOf ds⟩ i k p := fun i k p ⟨⟨es, h⟩, _⟩ => by
    obtain ⟨d, _, e⟩ := valsOf_get h
    cases e
  refine ⟨⟨s.sub, by show (vs.map some).length = (valsOf ds).length; unfold valsOf; rw [List.length_map, List.length_map]; exact r.length, fun i d h => ?_, fun i k es h => ?_, fun i j k l p h _ => (nc i k p h).elim⟩, nc⟩
  · obtain ⟨d', h1, h2⟩ := valsOf_get h
    cases h2
    obtain ⟨v, h3, h4⟩ := r.get h1
    exact ⟨v, by show (vs.map some)[i]? = _; rw [List.getElem?_map, h3]; rfl, h4⟩
  · obtain ⟨d, _, e⟩ := valsOf_get h
    cases e
/-- behind a call that changes nothing of the caller's -/
theorem leave_ext {x y z : Cf} (s : RSt K x) (e1 : y.F = x.F) (e2 : y.H = x.H) (nc : ∀ i k p, ¬ CelAt y i k p) (f : Fr [] y z) (sz : RSt K z) : Ext x ⟨z.F, z.H, x.s, x.r⟩ :=
  ⟨rfl, rfl, by rw [← e1]; exact f.ff, fun a o h => f.hp a o (by rw [e2]; exact h) (fun i hi => nomatch hi), sz.sub, fun a o h => by
    rcases f.nw a o h with g | g | ⟨i, g⟩
    · rw [e1] at g; exact .inl g
    · rw [e2] at g; exact .inr g
    · exact (nc i _ a g).elim⟩
def callD (np : Nat) (F : List Ent → R D) (m : M (List D)) : M D := mB m fun ds r => if ds.length = np then (match F (valsOf ds) with
  | .ok d _ => .ok d r
  | .exc c pl _ => .exc c pl r
  | .bad => .bad) else .bad
def callL (np : Nat) (F : List Ent → R D) (m : M (List D)) : M (List D) := mB m fun ds r => if ds.length = np then (match F (valsOf ds) with
  | .ok (.lst es) _ => .ok es r
  | .ok _ _ => .bad
  | .exc c pl _ => .exc c pl r
  | .bad => .bad) else .bad
theorem call_run {mg : Str → Option Value} {np : Nat} {F : List Ent → R D} {y : Cf} {vs : List V} {ds : List D} {Q : VK} {W : WX} {σ : L2.St} (s : RSt K y) (r : RepL K y.F vs ds) (hn : ds.length = np)
    (hok : ∀ d o, F (valsOf ds) = .ok d o → ∀ z, Ext y z → ∀ v, Rep K z.F v d → Q v z.H)
    (hx : ∀ c pl o, F (valsOf ds) = .exc c pl o → ∀ z cls dx, Ext y z → ExcRep K mg z c pl cls dx → W cls dx σ z.H)
    (hb : F (valsOf ds) ≠ .bad) : SpF K mg none false np F vs y.H Q (WE W σ) := by
  obtain ⟨s0, nc⟩ := enter_ok s r
  refine ⟨by rw [r.length]; exact hn, ⟨y.F, y.H, vs.map some, valsOf ds⟩, rfl, rfl, s0, fun i k p h => (nc i k p h).elim, ?_⟩
  show PostF K mg none false _ (F (valsOf ds)) Q (WE W σ)
  cases q : F (valsOf ds) with
  | ok d o => exact fun z _ _ f sz v hv => hok d o q _ (leave_ext (y := ⟨y.F, y.H, vs.map some, valsOf ds⟩) s rfl rfl nc f sz) v hv
  | exc c pl o => exact fun z cls dx _ _ f sz w => hx c pl o q ⟨z.F, z.H, y.s, y.r⟩ cls dx (leave_ext (y := ⟨y.F, y.H, vs.map some, valsOf ds⟩) s rfl rfl nc f sz) w
  | bad => exact hb q
theorem call_runL {mg : Str → Option Value} {np : Nat} {F : List Ent → R D} {y : Cf} {vs : List V} {ds : List D} {Q : VK} {W : WX} {σ : L2.St} (s : RSt K y) (r : RepL K y.F vs ds) (hn : ds.length = np)
    (hok : ∀ d o, F (valsOf ds) = .ok d o → ∀ z, Ext y z → ∀ p es, d = .lst es → NewL K y z p es → Q (.ref p) z.H)
    (hx : ∀ c pl o, F (valsOf ds) = .exc c pl o → ∀ z cls dx, Ext y z → ExcRep K mg z c pl cls dx → W cls dx σ z.H)
    (hb : F (valsOf ds) ≠ .bad) : SpF K mg none true np F vs y.H Q (WE W σ) := by
  obtain ⟨s0, nc⟩ := enter_ok s r
  refine ⟨by rw [r.length]; exact hn, ⟨y.F, y.H, vs.map some, valsOf ds⟩, rfl, rfl, s0, fun i k p h => (nc i k p h).elim, ?_⟩
  show PostF K mg none true _ (F (valsOf ds)) Q (WE W σ)
  cases q : F (valsOf ds) with
  | ok d o =>
    intro z _ _ f sz v hv
    obtain ⟨p, es, rfl, rfl, us, h1, h2⟩ := hv
    refine hok _ o q _ (leave_ext (y := ⟨y.F, y.H, vs.map some, valsOf ds⟩) s rfl rfl nc f sz) p es rfl ⟨us, h1, h2, fun i k c => ?_⟩
    exact not_cel s h2 i k c
  | exc c pl o => exact fun z cls dx _ _ f sz w => hx c pl o q ⟨z.F, z.H, y.s, y.r⟩ cls dx (leave_ext (y := ⟨y.F, y.H, vs.map some, valsOf ds⟩) s rfl rfl nc f sz) w
  | bad => exact hb q
theorem ev_call {np : Nat} {F : List Ent → R D} {ta : TA} {fa : M (List D)} (ea : EvD X W T ta fa) : EvE X W T (tCallSD (SpF X.K X.mg none false np F) [] (WE W) ta) (callD np F fa) := by
  intro x Q s p
  refine ea.bind s p fun ds y f1 s1 e1 vs hv p1 => ?_
  rw [List.append_nil]
  by_cases c : ds.length = np
  · rw [if_pos c] at p1
    refine call_run s1 hv c (fun d o q z ex v hv' => ?_) (fun c pl o q z cls dx ex w => ?_) (fun q => ?_)
    · rw [q] at p1; exact Post.here p1 ex s1 (ex.s.trans e1) v hv'
    · rw [q] at p1
      have := p1 z cls dx ex.r (ex.fr T) (ex.rst s1) w
      rw [ex.s, e1] at this
      exact this
    · rw [q] at p1; exact p1
  · rw [if_neg c] at p1
    exact p1.elim
theorem ev_callL {np : Nat} {F : List Ent → R D} {ta : TA} {fa : M (List D)} (ea : EvD X W T ta fa) : EvL X W T (tCallSD (SpF X.K X.mg none true np F) [] (WE W) ta) (callL np F fa) := by
  intro x Q s p
  refine ea.bind s p fun ds y f1 s1 e1 vs hv p1 => ?_
  rw [List.append_nil]
  by_cases c : ds.length = np
  · rw [if_pos c] at p1
    refine call_runL s1 hv c (fun d o q z ex p es hd hv' => ?_) (fun c pl o q z cls dx ex w => ?_) (fun q => ?_)
    · subst hd
      rw [q] at p1
      obtain ⟨us, h1, h2, h3⟩ := hv'
      exact Post.here p1 ex s1 (ex.s.trans e1) p us h1 (f1.dm p h2) h3
    · rw [q] at p1
      have := p1 z cls dx ex.r (ex.fr T) (ex.rst s1) w
      rw [ex.s, e1] at this
      exact this
    · rw [q] at p1; exact p1
  · rw [if_neg c] at p1
    exact p1.elim
variable {x : Str} {st : Stmt} {ps : List Str} {k : Nat} {F : List Ent → R D} {e : Expr} {es : List Expr} {p pos : Pos}
theorem se_call {np : Nat} (G : DefOk X.prog X.w X.K X.mg X.base x st ps k none false F) (hr : Room k X.A) (tk : Takes X W) {fa : M (List D)} (ha : SD X W T (e :: es) fa) (hg : Gl X x := by rfl) (hdb : (x == ("__debug__" : Str)) = false := by decide)
    (he : starEach (e :: es) X.env = (false, eval e X.env) :: starEach es X.env := by rfl) (hpl : (backTo pos (starEach es X.env)).any (·.1) = false := by rfl) (hn : ps.length = np := by rfl) : SE X W T (.Call (.Name x p) (e :: es) [] pos) (callD np F fa) := by
  subst hn
  obtain ⟨f, fd, hm, hk, _, FO, hb⟩ := G.ex
  obtain ⟨ta, pa, ea⟩ := ha.ex
  exact ⟨_, pe_callSD FO hr hg hm hk hb .nil (fun σ => passAt tk σ) pa hdb he hpl, ev_call ea⟩
theorem el_call {np : Nat} (G : DefOk X.prog X.w X.K X.mg X.base x st ps k none true F) (hr : Room k X.A) (tk : Takes X W) {fa : M (List D)} (ha : SD X W T (e :: es) fa) (hg : Gl X x := by rfl) (hdb : (x == ("__debug__" : Str)) = false := by decide)
    (he : starEach (e :: es) X.env = (false, eval e X.env) :: starEach es X.env := by rfl) (hpl : (backTo pos (starEach es X.env)).any (·.1) = false := by rfl) (hn : ps.length = np := by rfl) : SL X W T (.Call (.Name x p) (e :: es) [] pos) (callL np F fa) := by
  subst hn
  obtain ⟨f, fd, hm, hk, _, FO, hb⟩ := G.ex
  obtain ⟨ta, pa, ea⟩ := ha.ex
  exact ⟨_, pe_callSD FO hr hg hm hk hb .nil (fun σ => passAt tk σ) pa hdb he hpl, ev_callL ea⟩
/-! ### built-ins -/
/-- what a built-in's rule gives on data -/
def CallOk (K : PySem.W.Frag) (r : List V → Hp → VK → Prop) (o : List D → Option D) : Prop :=
  ∀ (x : Cf) (vs : List V) (ds : List D) (z : D) (Q : VK), RSt K x → RepL K x.F vs ds → o ds = some z → (∀ y w, Ext x y → Rep K y.F w z → Q w y.H) → r vs x.H Q
theorem CallOk.or {r r' : List V → Hp → VK → Prop} {o o' : List D → Option D} (h : CallOk K r o) (h' : CallOk K r' o') : CallOk K (fun x H Q => r x H Q ∨ r' x H Q) (fun ds => match o ds with | some z => some z | none => o' ds) := by
  intro x vs ds z Q s hv q k
  cases w : o ds with
  | some z' =>
    simp only [w] at q
    cases q
    exact .inl (h x vs ds _ Q s hv w k)
  | none =>
    simp only [w] at q
    exact .inr (h' x vs ds z Q s hv q k)
theorem CallOk.le {r : List V → Hp → VK → Prop} {o o' : List D → Option D} (h : CallOk K r o) (e : ∀ ds z, o' ds = some z → o ds = some z) : CallOk K r o' := fun x vs ds z Q s hv q k => h x vs ds z Q s hv (e _ _ q) k
def xB (o : List D → Option D) (m : M (List D)) : M D := mB m fun ds => mO (o ds)
theorem ev_b {r : List V → Hp → VK → Prop} {o : List D → Option D} {ta : TA} {fa : M (List D)} (h : CallOk X.K r o) (ea : EvD X W T ta fa) : EvE X W T (tCB r ta) (xB o fa) := by
  intro x Q s p
  refine ea.bind s p fun ds y f1 s1 e1 vs hv p1 => ?_
  cases q : o ds with
  | none => rw [q] at p1; exact p1.elim
  | some z =>
    rw [q] at p1
    exact h y vs ds z Q s1 hv q fun y2 w ex hw => Post.here p1 ex s1 (ex.s.trans e1) w hw
theorem se_b {id : String} {r : List V → Hp → VK → Prop} {o : List D → Option D} {fa : M (List D)} (hc : CallR X (.builtin id) r) (h : CallOk X.K r o) (hm : X.mg x = none) (ha : SD X W T (e :: es) fa) (hv : bootBuiltins x = some (.builtin id)) (hg : Gl X x := by rfl) (hn : x ≠ "__name__" := by decide)
    (hdb : (x == ("__debug__" : Str)) = false := by decide) (he : starEach (e :: es) X.env = (false, eval e X.env) :: starEach es X.env := by rfl) (hpl : (backTo pos (starEach es X.env)).any (·.1) = false := by rfl) : SE X W T (.Call (.Name x p) (e :: es) [] pos) (xB o fa) := by
  obtain ⟨ta, pa, ea⟩ := ha.ex
  exact ⟨_, pe_callB hc hg hm hv pa hn hdb he hpl, ev_b h ea⟩
theorem se_bt {id : String} {r : List V → Hp → VK → Prop} {o : List D → Option D} {fa : M (List D)} (hc : CallR X (.type id) r) (h : CallOk X.K r o) (hm : X.mg x = none) (ha : SD X W T (e :: es) fa) (hv : bootBuiltins x = some (.type id)) (hg : Gl X x := by rfl) (hn : x ≠ "__name__" := by decide)
    (hdb : (x == ("__debug__" : Str)) = false := by decide) (he : starEach (e :: es) X.env = (false, eval e X.env) :: starEach es X.env := by rfl) (hpl : (backTo pos (starEach es X.env)).any (·.1) = false := by rfl) : SE X W T (.Call (.Name x p) (e :: es) [] pos) (xB o fa) := by
  obtain ⟨ta, pa, ea⟩ := ha.ex
  exact ⟨_, pe_callTy hc hg hm hv pa hn hdb he hpl, ev_b h ea⟩
end
end FL
namespace FL
open PySem PySem.Spec L2 Builtin
/-! ### a row walked: a list or a tuple -/
def iSeq (K : PySem.W.Frag) (tl : TE) : TI := fun σ H R => tl σ H fun x H1 => ∃ a, x = .ref a ∧ (((∃ xs, SqL K H1 a xs) ∧ R (Itl K a) H1) ∨ ((∃ xs, SqT K H1 a xs) ∧ R (Itt K a) H1))
theorem pi_seq {X : Cx} {tg l : Expr} {tl : TE} (hl : PE X l tl) : PI X tg l (iSeq X.K tl) := by
  constructor
  intro pins s σ H R I h
  refine thn (hl.run pins s σ H _ I h) fun v s1 w => ?_
  obtain ⟨x, H1, I1, r1, a, e, q⟩ := w
  subst e
  have hv : v = Value.ref a := r1
  subst hv
  have fresh : ∀ b ∈ [s1.heap.objs.size], FpOk X pins H1 b := fun b hb => by
    rw [List.mem_singleton] at hb
    rw [hb]
    exact I1.fpOk (Nat.le_refl _) (I1.hok.fresh (Nat.le_refl _))
  rcases q with ⟨⟨xs, hq⟩, q⟩ | ⟨⟨xs, hq⟩, q⟩
  · obtain ⟨its, rv, pl, hz⟩ := I1.list hq
    refine wpAny_pyIter_list pl.isList ⟨_, [s1.heap.objs.size], _, _, H1, rfl, ?_, turn_list a _, ⟨_, Heap.get?_push_size _ rfl, rfl, rfl⟩, fresh, q⟩
    exact I1.kept (t' := s1.toks) fun b o e => Heap.get?_push_of_some _ e
  · obtain ⟨its, rv, pl, hz⟩ := I1.tuple hq
    have pt : s1.heap.IsTuple a its.toArray := pl
    refine wpAny_pyIter_tuple pt ⟨_, [s1.heap.objs.size], _, _, H1, rfl, ?_, turn_tuple a _, ⟨_, Heap.get?_push_size _ rfl, rfl, rfl⟩, fresh, q⟩
    exact I1.kept (t' := s1.toks) fun b o e => Heap.get?_push_of_some _ e
/-! ### enumerate of a tuple -/
abbrev tupIt (l : Addr) : Obj := { cls := .type "tuple_iterator", data := .fields #[.ref l, .int 0 0] }
abbrev enIt (n : Addr) : Obj := { cls := .type "enumerate", data := .fields #[.none, .bool false, .ref n, rawInt 0, .none, .none] }
theorem en_new (l : Addr) (items : Array Value) (o : Obj) : Meets (Builtin.«enumerate.__new__» ⟨[.type "enumerate", .ref l], []⟩)
    (fun _ R s => s.heap.get? l = some o ∧ o.cls = .type "tuple" ∧ s.heap.IsTuple l items ∧ R (.ok (.ret (.ref (s.heap.push (tupIt l)).objs.size))) { s with heap := (s.heap.push (tupIt l)).push (enIt s.heap.objs.size) }) := by
  refine .of_wp fun prog w A R s h => ?_
  obtain ⟨hp, g, d, tk, os⟩ := s
  obtain ⟨hl, hc, hL, h⟩ := h
  obtain ⟨oc, od, odt, osl⟩ := o
  have hc' : oc = .type "tuple" := hc
  subst hc'
  have hL' : Heap.IsTuple (Shared.heap ⟨hp, g, d, tk, os⟩) l items := hL
  have hs := sub_enumerate
  wp_walk using AutoSeq1.wpAny_loadPart' hl
  refine wpAny_stack_any fun st => wpAny_pure ?_
  split
  · rename_i c _ _ _ _ _
    cases (c == Value.type "enumerate") <;>
    · wp_walk using AutoSeq1.wpAny_loadPart' hl, wpAny_pyIter_tuple hL'
      exact ⟨_, rfl, h⟩
  · wp_walk using AutoSeq1.wpAny_loadPart' hl, wpAny_pyIter_tuple hL'
    exact ⟨_, rfl, h⟩
theorem en_call {prog : Program} {w : World} {A : Around} {E : Value → Shared → Prop} {s : Shared} {l : Addr} {items : Array Value} {Q : Value → Shared → Prop} (hL : s.heap.IsTuple l items)
    (h : ∀ h', IsEnum h' (s.heap.objs.size + 1) s.heap.objs.size 0 .none → h'.IsTupleIter s.heap.objs.size l 0 → h'.objs.size = s.heap.objs.size + 2 → (∀ b o, s.heap.get? b = some o → h'.get? b = some o) → Q (.ref (s.heap.objs.size + 1)) { s with heap := h' }) :
    wpAny (model prog w) A (call (.type "enumerate") [.ref l]) Q E s := by
  obtain ⟨o, ho, hc, ho2⟩ := id hL
  refine callType_new F.called_enumerate (by decide) (F.typeCall_enumerate_1 _) (F.newCall_enumerate_1 _) (fun obj => F.args_object_init_2 obj _) F.entry_enumerate_new (en_new l items o) ⟨ho, hc, hL, ?_⟩
  have hz : (s.heap.push (tupIt l)).objs.size = s.heap.objs.size + 1 := Heap.size_push ..
  show _ ∧ _
  rw [hz]
  have he : IsEnum ((s.heap.push (tupIt l)).push (enIt s.heap.objs.size)) (s.heap.objs.size + 1) s.heap.objs.size 0 .none := by
    have t := Heap.get?_push_size (s.heap.push (tupIt l)) (o := enIt s.heap.objs.size) rfl
    rw [hz] at t
    exact t
  refine ⟨⟨_, he, rfl⟩, h _ he ⟨_, Heap.get?_push_of_some _ (Heap.get?_push_size _ rfl), rfl, rfl⟩ (by rw [Heap.size_push, hz]) fun b o q => ?_⟩
  exact Heap.get?_push_of_some _ (Heap.get?_push_of_some _ q)
/-- the tuple at a, each item in a new pair behind its place -/
def IteT (K : PySem.W.Frag) (a : Addr) : It :=
  ⟨fun i H => ∃ xs x, SqT K H a xs ∧ xs[i]? = some x, fun i H v H' => ∃ t x, v = .ref t ∧ H t = none ∧ H' = upd H t (.tup [.int (i : Nat), x]) ∧ ∀ xs, SqT K H a xs → xs[i]? = some x,
   fun i H => ∃ xs, SqT K H a xs ∧ xs.length = i⟩
theorem turn_enT {P : Program} {w : World} {K : PySem.W.Frag} {elts : List Expr} {kk : Nat} {tpos : Pos} (a e it : Addr) :
    Turn P w K (.Tuple elts kk tpos) (IteT K a) [e, it] e (fun i h => (∃ old, IsEnum h e it ((i : Nat) : Int) old) ∧ h.IsTupleIter it a i ∧ e ≠ it) := by
  refine ⟨by simp, fun i h st b hb => ?_, fun i h h' st k => ?_, ?_, ?_, fun A i s Q E st h => ?_⟩
  · obtain ⟨⟨old, he⟩, ⟨o, ho, hc, hd⟩, _⟩ := st
    rcases List.mem_cons.mp hb with z | z
    · rw [z]; exact ⟨_, he, fun v q => nomatch q⟩
    · rw [List.mem_singleton.mp z]; exact ⟨o, ho, fun v q => by rw [hd] at q; cases q⟩
  · obtain ⟨⟨old, he⟩, hi, hne⟩ := st
    exact ⟨⟨old, k e (by simp) _ he⟩, hi.at fun o q => k it (by simp) o q, hne⟩
  · intro X hP hw hK hc i pins s σ H E I hf st hg
    subst hP hw hK
    obtain ⟨⟨old, he⟩, hit, hne⟩ := st
    obtain ⟨xs, x, hq, hx⟩ := hg
    obtain ⟨its, rv, pt, hz⟩ := I.tuple hq
    have pt' : s.heap.IsTuple a its.toArray := pt
    obtain ⟨u, hu, ru⟩ := rv.get hx
    have hel : e < s.heap.objs.size := Heap.lt_size he
    have hil : it < s.heap.objs.size := by obtain ⟨_, q, _⟩ := hit; exact Heap.lt_size q
    have nai : a ≠ it := by
      rintro rfl
      obtain ⟨o, ho, hcl, _⟩ := hit
      obtain ⟨o', ho', hcl', _⟩ := pt'
      rw [ho] at ho'; cases ho'
      rw [hcl] at hcl'; simp at hcl'
    have nae : a ≠ e := by
      rintro rfl
      obtain ⟨o', ho', hcl', _⟩ := pt'
      have he' : s.heap.get? a = some _ := he
      rw [ho'] at he'
      cases he'
      simp at hcl'
    have Dr := Draws.tuple (prog := X.prog) (w := X.w) (A := X.A.in1) (I.ok.hd hc) it a nai its.toArray
    have lt : i < its.toArray.size := by
      have := (List.getElem?_eq_some_iff.mp hu).1
      simpa using this
    refine wpAny_pyNext_enum_itemD Dr he ⟨hit, pt'⟩ lt hne (by simp [hne, Ne.symm nae]) fun x2 h' tk hx2 ho hst' hT hsz hk => ?_
    have ex : x2 = u := by
      have e1 : its.toArray[i]? = some x2 := hx2
      have e2 : its.toArray[i]? = some u := by simpa using hu
      rw [e1] at e2
      exact Option.some.inj e2
    subst ex
    refine ⟨_, rfl, wpAny_letOwnedTupleGo_enum (s := { s with heap := h', toks := tk + 1 }) ho fun h'' he' sb => ?_⟩
    have hT2 : h''.get? s.heap.objs.size = some { cls := .type "tuple", data := .seq #[.int i tk, x2] } := (sb.2 _ (Nat.ne_of_gt hel)).trans hT
    have hrel : Vals [V.int (i : Nat), x] [.int i tk, x2] := .cons ⟨tk, rfl⟩ (.cons ru .nil)
    have new : ObjOk X.prog X.w (upd H s.heap.objs.size (.tup [.int (i : Nat), x])) h'' s.heap.objs.size (.tup [.int (i : Nat), x]) := ⟨by show 2 ≤ sizeLine; decide, _, hrel, ⟨_, hT2, rfl, _, rfl⟩⟩
    have I1 : Inv X pins σ (upd H s.heap.objs.size (.tup [.int (i : Nat), x])) { s with heap := h'', toks := tk + 1 } := by
      refine I.turnedNew (ch := [e, it]) (fun b ob hb q => ?_) hf (Nat.le_refl _) new
      have b1 : b ≠ e := fun z => hb (by simp [z])
      have b2 : b ≠ it := fun z => hb (by simp [z])
      exact (sb.2 b b1).trans (hk b ob b1 b2 q)
    refine ⟨.ref s.heap.objs.size, _, I1, rfl, ⟨_, x, rfl, I.hok.fresh (Nat.le_refl _), rfl, fun ys hy => by rw [I.tuple_inj hy hq]; exact hx⟩, ⟨⟨x2, ?_⟩, hst'.1.at fun o q => (sb.2 it (Ne.symm hne)).trans q, hne⟩, fun b hb => ?_⟩
    · rw [show ((i + 1 : Nat) : Int) = (i : Int) + 1 by omega]
      exact he'
    · have hb' : b < s.heap.objs.size := by
        rcases List.mem_cons.mp hb with z | z
        · rw [z]; exact hel
        · rw [List.mem_singleton.mp z]; exact hil
      rw [upd_ne (Nat.ne_of_lt hb')]
      exact (hf b hb).1
  · intro X hP hw hK hc i pins s σ H E I hf st hg
    subst hP hw hK
    obtain ⟨⟨old, he⟩, hit, hne⟩ := st
    obtain ⟨xs, hq, hx⟩ := hg
    obtain ⟨its, rv, pt, hz⟩ := I.tuple hq
    have pt' : s.heap.IsTuple a its.toArray := pt
    obtain ⟨f0, f1, f2, f3, f4, f5⟩ := hf it (by simp)
    have nai : a ≠ it := by
      rintro rfl
      obtain ⟨o, ho, hcl, _⟩ := hit
      obtain ⟨o', ho', hcl', _⟩ := pt'
      rw [ho] at ho'; cases ho'
      rw [hcl] at hcl'; simp at hcl'
    have Dr := Draws.tuple (prog := X.prog) (w := X.w) (A := X.A.in1) (I.ok.hd hc) it a nai its.toArray
    have hn : its.toArray.size = i := by rw [List.size_toArray, ← rv.length]; exact hx
    refine wpAny_pyNext_enum_endD Dr he (by rw [hn]; exact ⟨hit, pt'⟩) fun h' eb => ⟨rfl, I.turned (t' := s.toks) (fun b o hb q => eb b o hb q) f0 f1 f3 f4 f5⟩
  · obtain ⟨⟨_, he⟩, _⟩ := st
    exact wpAny_pyIter_enum he h
def iEnumA (K : PySem.W.Frag) (ta : TA) : TI := fun σ H R => ta σ H fun vs H1 => ∃ a xs, vs = [.ref a] ∧ ((SqL K H1 a xs ∧ R (Ite K a) H1) ∨ (SqT K H1 a xs ∧ R (IteT K a) H1))
theorem pi_enumA {X : Cx} {e : Expr} {ta : TA} {p pos tpos : Pos} {elts : List Expr} {kk : Nat} (hg : Gl X "enumerate") (hm : X.mg "enumerate" = none) (ha : PA X [e] ta) (hs : starEach [e] X.env = [(false, eval e X.env)] := by rfl) :
    PI X (.Tuple elts kk tpos) (.Call (.Name "enumerate" p) [e] [] pos) (iEnumA X.K ta) := by
  constructor
  intro pins s σ H R I h
  refine PyProof.Rows.Call_ (ld_blt I hg hm PyProof.Rows.boot_enumerate (PyProof.Rows.callWith_type1 (thn (ha.run pos pins s σ H _ I h) fun us s1 w => ?_) hs rfl))
  obtain ⟨vs, H1, I1, r1, a, xs, ex, q⟩ := w
  subst ex
  cases r1 with
  | cons r rr =>
    cases rr
    cases r
    have fresh : ∀ b ∈ [s1.heap.objs.size + 1, s1.heap.objs.size], FpOk X pins H1 b := fun b hb => by
      have hle : s1.heap.objs.size ≤ b := by
        rcases List.mem_cons.mp hb with z | z
        · rw [z]; exact Nat.le_succ _
        · rw [List.mem_singleton.mp z]; exact Nat.le_refl _
      exact I1.fpOk hle (I1.hok.fresh hle)
    rcases q with ⟨hq, q⟩ | ⟨hq, q⟩
    · obtain ⟨its, rv, pl, hz⟩ := I1.list hq
      refine call_enumerate_list pl.isList fun h' he hit hsz hk => wpAny_pyIter_enum he ?_
      exact ⟨_, _, _, _, H1, rfl, I1.kept (t' := s1.toks) hk, turn_enum a _ _, ⟨⟨.none, he⟩, hit, Nat.succ_ne_self _⟩, fresh, q⟩
    · obtain ⟨its, rv, pt, hz⟩ := I1.tuple hq
      have pt' : s1.heap.IsTuple a its.toArray := pt
      refine en_call pt' fun h' he hit hsz hk => wpAny_pyIter_enum he ?_
      exact ⟨_, _, _, _, H1, rfl, I1.kept (t' := s1.toks) hk, turn_enT a _ _, ⟨⟨.none, he⟩, hit, Nat.succ_ne_self _⟩, fresh, q⟩
theorem walk_enT {K : PySem.W.Frag} {a : Addr} {xs : List V} : Walk (IteT K a) xs.length (fun H => SqT K H a xs) (YPair (fun i => some (.int (i : Nat))) (fun i => xs[i]?)) := by
  refine ⟨fun i _ hi q => ⟨xs, xs[i], q, by simp [hi]⟩, fun _ q => ⟨xs, q, rfl⟩, fun i H v H' _ q y => ?_⟩
  obtain ⟨t, x, h1, h2, h3, h4⟩ := y
  exact ⟨t, _, x, h1, h2, h3, rfl, h4 xs q⟩
end FL
namespace FL
open PySem PySem.Spec L2
/-! ### statements -/
inductive Fl where | nx | br | co | rt (d : D) | rtL (ds : List D)
def SQ (K : PySem.W.Frag) (x : Cf) (Dn : Ends) : Fl → Cf → Prop := fun fl y => match fl with
  | .nx => Dn.nx y.s y.H
  | .br => Dn.bk y.s y.H
  | .co => Dn.ct y.s y.H
  | .rt d => ∀ v, Rep K y.F v d → Dn.rt v y.H
  | .rtL ds => ∀ p us, FreshAt K y p us ds → (x.H p = none ∨ ∃ i, CelAt x i .own p) → Dn.rt (.ref p) y.H
theorem SQ.shift {K : PySem.W.Frag} {T : List Nat} {x y : Cf} {Dn : Ends} (f : Fr T x y) {fl : Fl} {z : Cf} (h : SQ K x Dn fl z) : SQ K y Dn fl z := by
  cases fl <;> try exact h
  intro p us hp q
  refine h p us hp ?_
  rcases q with q | ⟨i, q⟩
  · exact .inl (f.dm p q)
  · rcases f.cc i _ p q with ⟨_, g⟩ | g
    · exact .inl g
    · exact .inr ⟨i, g⟩
section
variable (X : Cx) (W : WX) (T : List Nat)
def EvS (ts : TS) (f : M Fl) : Prop := ∀ (x : Cf) (Dn : Ends), RSt X.K x → Post X.K X.mg T W x (f x.r) (SQ X.K x Dn) → ts Dn x.s x.H
structure SS (st : Stmt) (f : M Fl) : Prop where
  ex : ∃ ts, PS X st ts ∧ EvS X W T ts f
structure SSs (sts : List Stmt) (f : M Fl) : Prop where
  ex : ∃ ts, PSs X sts ts ∧ EvS X W T ts f
/-- a target -/
def EvG (g : TG) (f : D → M Unit) : Prop := ∀ (x : Cf) (v : V) (d : D) (Q : L2.St → Hp → Prop), RSt X.K x → Rep X.K x.F v d → Post X.K X.mg T W x (f d x.r) (fun _ y => Q y.s y.H) → g v x.s x.H Q
def EvGs (g : TGs) (f : List D → M Unit) : Prop := ∀ (x : Cf) (vs : List V) (ds : List D) (Q : L2.St → Hp → Prop), RSt X.K x → RepL X.K x.F vs ds → Post X.K X.mg T W x (f ds x.r) (fun _ y => Q y.s y.H) → g vs x.s x.H Q
structure SG (tg : Expr) (f : D → M Unit) : Prop where
  ex : ∃ g, PG X tg g ∧ EvG X W T g f
structure SGs (tgs : List Expr) (f : List D → M Unit) : Prop where
  ex : ∃ g, PGs X tgs g ∧ EvGs X W T g f
end
section
variable {X : Cx} {W : WX} {T : List Nat} {K : PySem.W.Frag}
def sSeq (f g : M Fl) : M Fl := mB f fun fl => match fl with
  | .nx => g
  | o => mP o
theorem post_ok {α : Type} {mg : Str → Option Value} {x y : Cf} {a : α} {Q : α → Cf → Prop} (h : Post K mg T W x (.ok a y.r) Q) (f : Fr T x y) (s : RSt K y) : Q a y := h y rfl f s
theorem EvS.seq {t u : TS} {f g : M Fl} (hf : EvS X W T t f) (hg : EvS X W T u g) : EvS X W T (tSeq t u) (sSeq f g) := by
  intro x Dn s p
  refine hf x { Dn with nx := u Dn } s ?_
  unfold sSeq mB at p
  cases e : f x.r with
  | ok fl ρ =>
    simp only [e] at p
    intro y hy fr sy
    rw [← hy] at p
    cases fl with
    | nx => exact hg y Dn sy ((p.shift fr).mono fun a z _ _ q => SQ.shift fr q)
    | br => exact p y rfl fr sy
    | co => exact p y rfl fr sy
    | rt d => exact p y rfl fr sy
    | rtL ds => exact p y rfl fr sy
  | exc c pl ρ => simp only [e] at p; exact p
  | bad => simp only [e] at p; exact p
theorem ss_nil : SSs X W T [] (mP .nx) := ⟨_, pss_nil, fun x Dn s p => p x rfl (Fr.refl T x) s⟩
theorem ss_cons {st : Stmt} {sts : List Stmt} {f g : M Fl} (h : SS X W T st f) (hs : SSs X W T sts g) : SSs X W T (st :: sts) (sSeq f g) := by
  obtain ⟨t, p, e⟩ := h.ex
  obtain ⟨u, q, e2⟩ := hs.ex
  exact ⟨_, pss_cons p q, e.seq e2⟩
theorem ss_one {st : Stmt} {f : M Fl} (h : SS X W T st f) : SSs X W T [st] f := by
  obtain ⟨t, p, e⟩ := h.ex
  exact ⟨_, pss_one p, e⟩
theorem ss_pass {pos} : SS X W T (.Pass pos) (mP .nx) := ⟨_, ps_pass, fun x Dn s p => p x rfl (Fr.refl T x) s⟩
theorem ss_break {pos} : SS X W T (.Break pos) (mP .br) := ⟨_, ps_break, fun x Dn s p => p x rfl (Fr.refl T x) s⟩
theorem ss_cont {pos} : SS X W T (.Continue pos) (mP .co) := ⟨_, ps_continue, fun x Dn s p => p x rfl (Fr.refl T x) s⟩
def sIf (c : M Bool) (a b : M Fl) : M Fl := mB c fun k => if k then a else b
theorem ss_if {c : Expr} {a b : List Stmt} {pos : Pos} {fc : M Bool} {fa fb : M Fl} (hc : ST X W T c fc) (ha : SSs X W T a fa) (hb : SSs X W T b fb) : SS X W T (.If c a b pos) (sIf fc fa fb) := by
  obtain ⟨tc, pc, ec⟩ := hc.ex
  obtain ⟨ta, pa, ea⟩ := ha.ex
  obtain ⟨tb, pb, eb⟩ := hb.ex
  refine ⟨_, ps_if pc pa pb, fun x Dn s p => ?_⟩
  refine ec.bind s p fun k y f1 s1 e1 p1 => ?_
  have p2 := p1.mono fun a z _ _ q => SQ.shift f1 q
  cases k with
  | true =>
    show ta Dn x.s y.H
    rw [← e1]
    exact ea y Dn s1 p2
  | false =>
    show tb Dn x.s y.H
    rw [← e1]
    exact eb y Dn s1 p2
def sExpr (m : M D) : M Fl := mB m fun _ => mP .nx
theorem ss_expr {e : Expr} {pos : Pos} {f : M D} (h : SE X W T e f) (hs : swapsWith e none pos.line X.env = pure false := by rfl) : SS X W T (.Expr e pos) (sExpr f) := by
  obtain ⟨te, pe, ev⟩ := h.ex
  refine ⟨_, ps_expr pe hs, fun x Dn s p => ?_⟩
  refine ev.bind s p fun d y f1 s1 e1 v hv p1 => ?_
  show Dn.nx x.s y.H
  rw [← e1]
  exact p1 y rfl (Fr.refl T y) s1
def sRet (m : M D) : M Fl := mB m fun d => mP (.rt d)
theorem ss_ret {e : Expr} {pos : Pos} {f : M D} (h : SE X W T e f) : SS X W T (.Return (some e) pos) (sRet f) := by
  obtain ⟨te, pe, ev⟩ := h.ex
  refine ⟨_, ps_ret pe, fun x Dn s p => ?_⟩
  exact ev.bind s p fun d y f1 s1 e1 v hv p1 => p1 y rfl (Fr.refl T y) s1 v hv
theorem ss_retN {pos : Pos} : SS X W T (.Return none pos) (mP (.rt .non)) := ⟨_, ps_retN, fun x Dn s p => p x rfl (Fr.refl T x) s _ .non⟩
theorem EvL.bind {α : Type} {te : TE} {f : M (List D)} {k : List D → M α} {x : Cf} {Q : VK} {Qf : α → Cf → Prop} (h : EvL X W T te f) (s : RSt X.K x) (p : Post X.K X.mg T W x (mB f k x.r) Qf)
    (n : ∀ ds y, Fr T x y → RSt X.K y → y.s = x.s → ∀ q us, FreshAt X.K y q us ds → x.H q = none → (∀ i k, ¬ CelAt y i k q) → Post X.K X.mg T W y (k ds y.r) Qf → Q (.ref q) y.H) : te x.s x.H Q := by
  refine h x Q s ?_
  unfold mB at p
  cases e : f x.r with
  | ok d ρ =>
    simp only [e] at p
    intro y hy fr sy hs q us h1 h2 h3
    rw [← hy] at p
    exact n d y fr sy hs q us h1 h2 h3 (p.shift fr)
  | exc c pl ρ => simp only [e] at p; exact p
  | bad => simp only [e] at p; exact p
def sRetL (m : M (List D)) : M Fl := mB m fun ds => mP (.rtL ds)
theorem ss_retL {e : Expr} {pos : Pos} {f : M (List D)} (h : SL X W T e f) : SS X W T (.Return (some e) pos) (sRetL f) := by
  obtain ⟨te, pe, ev⟩ := h.ex
  refine ⟨_, ps_ret pe, fun x Dn s p => ?_⟩
  exact ev.bind s p fun ds y f1 s1 e1 q us h1 h2 h3 p1 => p1 y rfl (Fr.refl T y) s1 q us h1 (.inl h2)
/-- return of a list of one's own -/
def sRetC (i : Nat) : M Fl := fun r => match r[i]? with
  | some (.cel .own ds) => .ok (.rtL ds) r
  | _ => .bad
theorem ss_retC (i : Nat) {x : Str} {p1 pos : Pos} (hN : X.N[i]? = some x := by rfl) (hv : Vis X.env.scope x := by first | exact Or.inl rfl | exact Or.inr (Or.inl rfl) | exact Or.inr (Or.inr rfl)) (hd : (x == ("__debug__" : Str)) = false := by decide)
    (hc : (x == ("__classdict__" : Str)) = false := by decide) : SS X W T (.Return (some (.Name x p1)) pos) (sRetC i) := by
  refine ⟨_, ps_ret (pe_var (i := i) hN hv hd hc), fun x Dn s p => ?_⟩
  unfold sRetC at p
  split at p
  · rename_i ds e
    obtain ⟨q, h1, us, h2, h3, h4⟩ := s.cel i _ ds e
    exact ⟨_, h1, p x rfl (Fr.refl T x) s q us ⟨h3, h4, h2⟩ (.inr ⟨i, ⟨ds, e⟩, h1⟩)⟩
  · exact p.elim
/-! ### stores -/
/-- slot i holds d -/
def setv (i : Nat) (d : D) : M Unit := fun r => if i < r.length then .ok () (r.set i (.val d)) else .bad
theorem get_set {α : Type} {l : List α} {i j : Nat} {a b : α} (h : (l.set i a)[j]? = some b) : (i = j ∧ a = b ∧ i < l.length) ∨ (i ≠ j ∧ l[j]? = some b) := by
  by_cases e : i = j
  · subst e
    by_cases hl : i < l.length
    · rw [List.getElem?_set_self hl] at h
      exact .inl ⟨rfl, Option.some.inj h, hl⟩
    · rw [List.getElem?_eq_none (by simpa using hl)] at h; cases h
  · rw [List.getElem?_set_ne e] at h
    exact .inr ⟨e, h⟩
theorem setv_cel {x : Cf} {i : Nat} {v : V} {d : D} {j : Nat} {k : CK} {p : Addr} (h : CelAt ⟨x.F, x.H, x.s.set i (some v), x.r.set i (.val d)⟩ j k p) : i ≠ j ∧ CelAt x j k p := by
  obtain ⟨⟨es, h1⟩, h2⟩ := h
  rcases get_set h1 with ⟨_, e, _⟩ | ⟨e, g⟩
  · cases e
  · refine ⟨e, ⟨es, g⟩, ?_⟩
    have h2' : (x.s.set i (some v))[j]? = some (some (.ref p)) := h2
    rwa [List.getElem?_set_ne e] at h2'
theorem setv_ok {x : Cf} {i : Nat} {v : V} {d : D} (s : RSt K x) (h : Rep K x.F v d) (hi : i ∈ T) : Fr T x ⟨x.F, x.H, x.s.set i (some v), x.r.set i (.val d)⟩ ∧ RSt K ⟨x.F, x.H, x.s.set i (some v), x.r.set i (.val d)⟩ := by
  constructor
  · refine ⟨List.length_set .., Same.refl _, fun _ h => h, fun a o e => .inl ⟨o, e⟩, fun a o e _ => e, fun j k p c => .inr (setv_cel c).2, fun j hj => ?_⟩
    have ne : i ≠ j := fun e => hj (e ▸ hi)
    exact ⟨List.getElem?_set_ne ne, List.getElem?_set_ne ne⟩
  · refine ⟨s.sub, by show (x.s.set i _).length = (x.r.set i _).length; rw [List.length_set, List.length_set]; exact s.len, fun j e h1 => ?_, fun j k es h1 => ?_, fun j l k k' p c c' => s.dis j l k k' p (setv_cel c).2 (setv_cel c').2⟩
    · rcases get_set h1 with ⟨e1, e2, hl⟩ | ⟨e1, g⟩
      · subst e1
        cases e2
        exact ⟨v, by show (x.s.set i _)[i]? = _; rw [List.getElem?_set_self (by rw [s.len]; exact hl)], h⟩
      · obtain ⟨w, h2, h3⟩ := s.val j e g
        exact ⟨w, by show (x.s.set i _)[j]? = _; rw [List.getElem?_set_ne e1]; exact h2, h3⟩
    · rcases get_set h1 with ⟨e1, e2, hl⟩ | ⟨e1, g⟩
      · cases e2
      · obtain ⟨q, h2, h3⟩ := s.cel j k es g
        exact ⟨q, by show (x.s.set i _)[j]? = _; rw [List.getElem?_set_ne e1]; exact h2, h3⟩
theorem setv_run {x : Cf} {i : Nat} {v : V} {d : D} {α : Type} {k : M α} {Q : α → Cf → Prop} (s : RSt X.K x) (h : Rep X.K x.F v d) (hi : i ∈ T) (p : Post X.K X.mg T W x (mB (setv i d) (fun _ => k) x.r) Q) :
    Post X.K X.mg T W ⟨x.F, x.H, x.s.set i (some v), x.r.set i (.val d)⟩ (k (x.r.set i (.val d))) Q ∧ Fr T x ⟨x.F, x.H, x.s.set i (some v), x.r.set i (.val d)⟩ ∧ RSt X.K ⟨x.F, x.H, x.s.set i (some v), x.r.set i (.val d)⟩ := by
  obtain ⟨f, s1⟩ := setv_ok s h hi
  unfold mB setv at p
  by_cases c : i < x.r.length
  · simp only [c, if_true] at p
    exact ⟨p.shift f, f, s1⟩
  · simp only [c, if_false] at p
    exact p.elim
def sSet (i : Nat) (m : M D) : M Fl := mB m fun d => mB (setv i d) fun _ => mP .nx
theorem ev_set (i : Nat) {te : TE} {f : M D} (ev : EvE X W T te f) (hT : i ∈ T) : EvS X W T (tAsg te (gName i)) (sSet i f) := by
  intro x Dn s p
  refine ev.bind s p fun d y f1 s1 e1 v hv p1 => ?_
  obtain ⟨p2, f2, s2⟩ := setv_run s1 hv hT p1
  show Dn.nx (x.s.set i (some v)) y.H
  rw [← e1]
  exact p2 _ rfl (Fr.refl T _) s2
theorem ss_set (i : Nat) {x : Str} {e : Expr} {f : M D} {pos pos' : Pos} (hN : X.N.Nodup) (he : SE X W T e f) (hi : X.N[i]? = some x := by rfl) (hx : Loc X.env.scope x := by first | exact Or.inl rfl | exact Or.inr rfl) (hT : i ∈ T := by decide)
    (hs : swapsWith e (some (.Name x pos')) pos.line X.env = pure false := by rfl) (hf : X.fn x = true ∨ X.env.scope.names.lookup x = some .local := by first | exact .inl rfl | exact .inr rfl) : SS X W T (.Assign [.Name x pos'] e pos) (sSet i f) := by
  obtain ⟨te, pe, ev⟩ := he.ex
  exact ⟨_, ps_set hN hi hx pe hs hf, ev_set i ev hT⟩
def setc (i : Nat) (k : CK) (ds : List D) : M Unit := fun r => if i < r.length then .ok () (r.set i (.cel k ds)) else .bad
def sSetL (i : Nat) (m : M (List D)) : M Fl := mB m fun ds => mB (setc i .own ds) fun _ => mP .nx
theorem setc_ok {x : Cf} {i : Nat} {p : Addr} {us : List V} {ds : List D} (s : RSt K x) (h : FreshAt K x p us ds) (nc : ∀ i k, ¬ CelAt x i k p) :
    (∀ j k q, CelAt ⟨x.F, x.H, x.s.set i (some (.ref p)), x.r.set i (.cel .own ds)⟩ j k q → (j = i ∧ k = .own ∧ q = p) ∨ (j ≠ i ∧ CelAt x j k q)) ∧ RSt K ⟨x.F, x.H, x.s.set i (some (.ref p)), x.r.set i (.cel .own ds)⟩ := by
  have key : ∀ j k q, CelAt ⟨x.F, x.H, x.s.set i (some (.ref p)), x.r.set i (.cel .own ds)⟩ j k q → (j = i ∧ k = .own ∧ q = p) ∨ (j ≠ i ∧ CelAt x j k q) := fun j k q c => by
    obtain ⟨⟨es, h1⟩, h2⟩ := c
    have h2' : (x.s.set i (some (V.ref p)))[j]? = some (some (.ref q)) := h2
    rcases get_set h1 with ⟨e, e2, _⟩ | ⟨e, g⟩
    · subst e
      cases e2
      rcases get_set h2' with ⟨_, e3, _⟩ | ⟨e3, _⟩
      · cases e3; exact .inl ⟨rfl, rfl, rfl⟩
      · exact (e3 rfl).elim
    · rw [List.getElem?_set_ne e] at h2'
      exact .inr ⟨Ne.symm e, ⟨es, g⟩, h2'⟩
  refine ⟨key, s.sub, by show (x.s.set i _).length = (x.r.set i _).length; rw [List.length_set, List.length_set]; exact s.len, fun j e h1 => ?_, fun j k es h1 => ?_, fun j l k k' q c c' => ?_⟩
  · rcases get_set h1 with ⟨_, e2, _⟩ | ⟨e1, g⟩
    · cases e2
    · obtain ⟨w, h2, h3⟩ := s.val j e g
      exact ⟨w, by show (x.s.set i _)[j]? = _; rw [List.getElem?_set_ne e1]; exact h2, h3⟩
  · rcases get_set h1 with ⟨e1, e2, hl⟩ | ⟨e1, g⟩
    · subst e1
      cases e2
      exact ⟨p, by show (x.s.set i _)[i]? = _; rw [List.getElem?_set_self (by rw [s.len]; exact hl)], us, h.2.2, h.1, h.2.1⟩
    · obtain ⟨q, h2, h3⟩ := s.cel j k es g
      exact ⟨q, by show (x.s.set i _)[j]? = _; rw [List.getElem?_set_ne e1]; exact h2, h3⟩
  · rcases key j k q c with ⟨a1, a2, a3⟩ | ⟨a1, a2⟩
    · rcases key l k' q c' with ⟨b1, b2, b3⟩ | ⟨b1, b2⟩
      · rw [a1, b1]
      · rw [a3] at b2; exact (nc _ _ b2).elim
    · rcases key l k' q c' with ⟨b1, b2, b3⟩ | ⟨b1, b2⟩
      · rw [b3] at a2; exact (nc _ _ a2).elim
      · exact s.dis j l k k' q a2 b2
theorem ev_setL (i : Nat) {te : TE} {f : M (List D)} (ev : EvL X W T te f) (hT : i ∈ T) : EvS X W T (tAsg te (gName i)) (sSetL i f) := by
  intro x Dn s p
  refine ev x _ s ?_
  unfold sSetL mB at p
  cases e : f x.r with
  | exc c pl ρ => simp only [e] at p; exact p
  | bad => simp only [e] at p; exact p
  | ok ds ρ =>
    simp only [e] at p
    intro y hy f1 s1 e1 q us h1 h2 h3
    rw [← hy] at p
    obtain ⟨key, s2⟩ := setc_ok (i := i) s1 h1 h3
    unfold setc at p
    by_cases c : i < y.r.length
    · simp only [c, if_true] at p
      show Dn.nx (x.s.set i (some (.ref q))) y.H
      rw [← e1]
      refine p ⟨y.F, y.H, y.s.set i (some (.ref q)), y.r.set i (.cel .own ds)⟩ rfl ⟨(List.length_set ..).trans f1.ln, f1.ff, f1.dm, f1.nw, f1.hp, fun j k a cc => ?_, fun j hj => ?_⟩ s2
      · rcases key j k a cc with ⟨_, a2, a3⟩ | ⟨_, a2⟩
        · exact .inl ⟨a2, by rw [a3]; exact h2⟩
        · exact f1.cc j k a a2
      · have ne : i ≠ j := fun z => hj (z ▸ hT)
        obtain ⟨g1, g2⟩ := f1.un j hj
        exact ⟨(List.getElem?_set_ne ne).trans g1, (List.getElem?_set_ne ne).trans g2⟩
    · simp only [c, if_false] at p
      exact p.elim
theorem ss_setL (i : Nat) {x : Str} {e : Expr} {f : M (List D)} {pos pos' : Pos} (hN : X.N.Nodup) (he : SL X W T e f) (hi : X.N[i]? = some x := by rfl) (hx : Loc X.env.scope x := by first | exact Or.inl rfl | exact Or.inr rfl) (hT : i ∈ T := by decide)
    (hs : swapsWith e (some (.Name x pos')) pos.line X.env = pure false := by rfl) (hf : X.fn x = true ∨ X.env.scope.names.lookup x = some .local := by first | exact .inl rfl | exact .inr rfl) : SS X W T (.Assign [.Name x pos'] e pos) (sSetL i f) := by
  obtain ⟨te, pe, ev⟩ := he.ex
  exact ⟨_, ps_set hN hi hx pe hs hf, ev_setL i ev hT⟩
end
end FL
namespace FL
open PySem PySem.Spec L2
section
variable {X : Cx} {W : WX} {T : List Nat} {K : PySem.W.Frag}
/-! ### targets -/
theorem sg_name (i : Nat) {x : Str} {pos : Pos} (hN : X.N.Nodup) (hi : X.N[i]? = some x := by rfl) (hx : Loc X.env.scope x := by first | exact Or.inl rfl | exact Or.inr rfl) (hT : i ∈ T := by decide)
    (hf : X.fn x = true ∨ X.env.scope.names.lookup x = some .local := by first | exact .inl rfl | exact .inr rfl) : SG X W T (.Name x pos) (setv i) := by
  refine ⟨_, pg_name hN hi hx hf, fun x v d Q s h p => ?_⟩
  obtain ⟨f, s1⟩ := setv_ok (d := d) s h hT
  unfold setv at p
  by_cases c : i < x.r.length
  · simp only [c, if_true] at p
    exact p _ rfl f s1
  · simp only [c, if_false] at p
    exact p.elim
def gsCons (f : D → M Unit) (g : List D → M Unit) : List D → M Unit := fun ds => match ds with
  | d :: r => mB (f d) fun _ => g r
  | [] => fun _ => .bad
def gsNil : List D → M Unit := fun ds => match ds with
  | [] => mP ()
  | _ => fun _ => .bad
theorem sgs_nil : SGs X W T [] gsNil := ⟨_, pgs_nil, fun x vs ds Q s h p => by
  cases h with
  | nil => exact ⟨rfl, p x rfl (Fr.refl T x) s⟩
  | cons _ _ => exact p.elim⟩
theorem sgs_cons {t : Expr} {ts : List Expr} {f : D → M Unit} {g : List D → M Unit} (h : SG X W T t f) (hs : SGs X W T ts g) (ha : (assignEach (t :: ts) X.env).map (·.2) = assign t X.env :: (assignEach ts X.env).map (·.2) := by rfl) : SGs X W T (t :: ts) (gsCons f g) := by
  obtain ⟨u, pu, eu⟩ := h.ex
  obtain ⟨v, pv, ev⟩ := hs.ex
  refine ⟨_, pgs_cons pu pv ha, fun x vs ds Q s h p => ?_⟩
  cases h with
  | nil => exact p.elim
  | @cons a as d ds h r =>
    refine ⟨a, as, rfl, eu x a d _ s h ?_⟩
    show Post _ _ _ _ _ (f d x.r) _
    have p' : Post X.K X.mg T W x (mB (f d) (fun _ => g ds) x.r) (fun _ y => Q y.s y.H) := p
    unfold mB at p'
    cases e : f d x.r with
    | exc c pl ρ => simp only [e] at p'; exact p'
    | bad => simp only [e] at p'; exact p'
    | ok z ρ =>
      simp only [e] at p'
      intro y hy fr sy
      rw [← hy] at p'
      exact ev y as ds Q sy (r.mono fr.ff) (p'.shift fr)
def gsTup (n : Nat) (g : List D → M Unit) : D → M Unit := fun d => match d with
  | .tup ds => if ds.length = n then g ds else fun _ => .bad
  | _ => fun _ => .bad
theorem sg_tup {es : List Expr} {k : Nat} {pos : Pos} {g : List D → M Unit} {n : Nat} (hc : X.calm = true) (h : SGs X W T es g) (hn : (assignEach es X.env).length = n := by rfl) (hst : (assignEach es X.env).findIdx? (·.1) = none := by rfl) :
    SG X W T (.Tuple es k pos) (gsTup n g) := by
  obtain ⟨u, pu, eu⟩ := h.ex
  refine ⟨_, pg_tup hc pu hn hst, fun x v d Q s h p => ?_⟩
  cases d <;> try exact p.elim
  rename_i ds
  cases h with
  | tup ha r =>
    have p' : Post X.K X.mg T W x ((if ds.length = n then g ds else fun _ => .bad) x.r) (fun _ y => Q y.s y.H) := p
    by_cases c : ds.length = n
    · rw [if_pos c] at p'
      exact ⟨_, _, rfl, sameT s.sub ha, by rw [r.length]; exact c, eu x _ ds Q s r p'⟩
    · rw [if_neg c] at p'
      exact p'.elim
/-- slot j's list with another item at a place -/
def updc (j : Nat) (f : List D → Option (List D)) : M Unit := fun r => match r[j]? with
  | some (.cel k ds) => match f ds with
    | some es => .ok () (r.set j (.cel k es))
    | none => .bad
  | _ => .bad
theorem updc_ok {x : Cf} {j : Nat} {k : CK} {ds es : List D} {p : Addr} {us ws : List V} (s : RSt K x) (h : x.r[j]? = some (.cel k ds)) (hs : x.s[j]? = some (some (.ref p))) (fp : x.F p = none) (hp : x.H p = some (.lst us)) (r : RepL K x.F ws es) (hj : j ∈ T) :
    Fr T x ⟨x.F, upd x.H p (.lst ws), x.s, x.r.set j (.cel k es)⟩ ∧ RSt K ⟨x.F, upd x.H p (.lst ws), x.s, x.r.set j (.cel k es)⟩ := by
  have celx : CelAt x j k p := ⟨⟨ds, h⟩, hs⟩
  have key : ∀ i l q, CelAt ⟨x.F, upd x.H p (.lst ws), x.s, x.r.set j (.cel k es)⟩ i l q → CelAt x i l q := fun i l q ⟨⟨gs, h1⟩, h2⟩ => by
    rcases get_set h1 with ⟨e1, e2, _⟩ | ⟨e1, g⟩
    · subst e1
      cases e2
      exact ⟨⟨ds, h⟩, h2⟩
    · exact ⟨⟨gs, g⟩, h2⟩
  constructor
  · refine ⟨List.length_set .., Same.refl _, fun a e => ?_, fun a o e => .inl ⟨o, e⟩, fun a o e n => ?_, fun i l q c => .inr (key i l q c), fun i hi => ⟨List.getElem?_set_ne (fun z => hi (by rw [← z]; exact hj)), rfl⟩⟩
    · by_cases z : a = p
      · subst z
        have e' : upd x.H a (HO.lst ws) a = none := e
        rw [upd_same] at e'; cases e'
      · rw [← e]; exact (upd_ne z).symm
    · have z : a ≠ p := fun z => n j hj k (z ▸ celx)
      show upd x.H p _ a = some o
      rw [upd_ne z]; exact e
  · refine ⟨fun a o e => ?_, by show x.s.length = (x.r.set j _).length; rw [List.length_set]; exact s.len, fun i d e => ?_, fun i l gs e => ?_, fun i m l l' q c c' => s.dis i m l l' q (key _ _ _ c) (key _ _ _ c')⟩
    · have z : a ≠ p := by rintro rfl; rw [fp] at e; cases e
      show upd x.H p _ a = some o
      rw [upd_ne z]; exact s.sub a o e
    · rcases get_set e with ⟨_, e2, _⟩ | ⟨e1, g⟩
      · cases e2
      · exact s.val i d g
    · rcases get_set e with ⟨e1, e2, _⟩ | ⟨e1, g⟩
      · subst e1
        cases e2
        exact ⟨p, hs, ws, r, upd_same, fp⟩
      · obtain ⟨q, h1, vs, h2, h3, h4⟩ := s.cel i l gs g
        have z : q ≠ p := fun z => e1 (s.dis j i k l p celx ⟨⟨gs, g⟩, by rw [← z]; exact h1⟩)
        exact ⟨q, h1, vs, h2, by show upd x.H p _ q = _; rw [upd_ne z]; exact h3, h4⟩
theorem updc_run {x : Cf} {j : Nat} {f : List D → Option (List D)} {α : Type} {m : M α} {Q : α → Cf → Prop} (s : RSt X.K x) (hj : j ∈ T) (p : Post X.K X.mg T W x (mB (updc j f) (fun _ => m) x.r) Q) :
    ∃ k ds es q us, x.s[j]? = some (some (.ref q)) ∧ x.H q = some (.lst us) ∧ RepL X.K x.F us ds ∧ f ds = some es ∧
      ∀ ws, RepL X.K x.F ws es → RSt X.K ⟨x.F, upd x.H q (.lst ws), x.s, x.r.set j (.cel k es)⟩ ∧ Fr T x ⟨x.F, upd x.H q (.lst ws), x.s, x.r.set j (.cel k es)⟩ ∧ Post X.K X.mg T W ⟨x.F, upd x.H q (.lst ws), x.s, x.r.set j (.cel k es)⟩ (m (x.r.set j (.cel k es))) Q := by
  unfold mB updc at p
  cases e : x.r[j]? with
  | none => simp only [e] at p; exact p.elim
  | some en =>
    simp only [e] at p
    cases en with
    | no => exact p.elim
    | val d => exact p.elim
    | cel k ds =>
      cases g : f ds with
      | none => simp only [g] at p; exact p.elim
      | some es =>
        simp only [g] at p
        obtain ⟨q, h1, us, h2, h3, h4⟩ := s.cel j k ds e
        refine ⟨k, ds, es, q, us, h1, h3, h2, g, fun ws hw => ?_⟩
        obtain ⟨a, b⟩ := updc_ok s e h1 h4 h3 hw hj
        exact ⟨b, a, p.shift a⟩
def setIx (d i : D) (ds : List D) : Option (List D) := match i with
  | .int n => (ixN ds.length n).map fun j => ds.set j d
  | _ => none
def hasC (j : Nat) : M Unit := fun r => match r[j]? with
  | some (.cel _ _) => .ok () r
  | _ => .bad
theorem hasC_run {x : Cf} {j : Nat} {α : Type} {m : M α} {Q : α → Cf → Prop} (s : RSt X.K x) (p : Post X.K X.mg T W x (mB (hasC j) (fun _ => m) x.r) Q) :
    (∃ k ds q us, x.r[j]? = some (.cel k ds) ∧ x.s[j]? = some (some (.ref q)) ∧ x.H q = some (.lst us)) ∧ Post X.K X.mg T W x (m x.r) Q := by
  unfold mB hasC at p
  cases e : x.r[j]? with
  | none => simp only [e] at p; exact p.elim
  | some en =>
    simp only [e] at p
    cases en with
    | no => exact p.elim
    | val d => exact p.elim
    | cel k ds =>
      obtain ⟨q, h1, us, h2, h3, h4⟩ := s.cel j k ds e
      exact ⟨⟨k, ds, q, us, rfl, h1, h3⟩, p⟩
def gsSub (j : Nat) (ix : M D) : D → M Unit := fun d => mB (hasC j) fun _ => mB ix fun i => mB (updc j (setIx d i)) fun _ => mP ()
theorem sg_sub (j : Nat) {x : Str} {i : Expr} {fi : M D} {p1 pos : Pos} (hi : SE X W T i fi) (hN : X.N[j]? = some x := by rfl) (hv : Vis X.env.scope x := by first | exact Or.inl rfl | exact Or.inr (Or.inl rfl) | exact Or.inr (Or.inr rfl)) (hT : j ∈ T := by decide)
    (hd : (x == ("__debug__" : Str)) = false := by decide) (hc : (x == ("__classdict__" : Str)) = false := by decide)
    (ha : ∀ v, assign (.Subscript (.Name x p1) i pos) X.env v = (do
      let ov ← holding [v] (eval (.Name x p1) X.env)
      let iv ← holding [v, ov] (eval i X.env)
      standAt pos
      holding [v, ov, iv] (setItem ov iv v)
      release [v, ov, iv] []) := by intro _; rfl) : SG X W T (.Subscript (.Name x p1) i pos) (gsSub j fi) := by
  obtain ⟨ti, pi, ei⟩ := hi.ex
  refine ⟨_, pg_sub (pe_var (i := j) hN hv hd hc) pi set_list ha, fun x v d Q s h p => ?_⟩
  obtain ⟨⟨k, ds, q, us, e, hs, hq⟩, p1⟩ := hasC_run s p
  refine ⟨_, hs, ?_⟩
  refine ei.bind s p1 fun iv y f1 s1 e1 w hw p2 => ?_
  obtain ⟨k2, ds2, es, q2, us2, h1, h2, h3, h4, h5⟩ := updc_run s1 hT p2
  rw [e1, hs] at h1
  cases h1
  cases iv <;> try (simp [setIx] at h4; done)
  rename_i n
  cases hw
  simp only [setIx] at h4
  cases g : ixN ds2.length n with
  | none => rw [g] at h4; cases h4
  | some m =>
    rw [g] at h4
    cases h4
    obtain ⟨a, b, c⟩ := h5 (us2.set m v) (RepL.set (h.mono f1.ff) m h3)
    refine ⟨q, us2, n, m, rfl, rfl, h2, by rw [h3.length]; exact g, ?_⟩
    have := c _ rfl (Fr.refl T _) a
    show Q x.s _
    rw [← e1]
    exact this
def sAsg (m : M D) (g : D → M Unit) : M Fl := mB m fun d => mB (g d) fun _ => mP .nx
theorem ss_asg {tg e : Expr} {f : M D} {g : D → M Unit} {pos : Pos} (he : SE X W T e f) (hg : SG X W T tg g) (hs : swapsWithSole [tg] e pos.line X.env = pure false := by rfl) (hw : swappedStores [tg] e X.env = pure none := by rfl)
    (h1 : (assignEach [tg] X.env).map (·.2) = [assign tg X.env] := by rfl) : SS X W T (.Assign [tg] e pos) (sAsg f g) := by
  obtain ⟨te, pe, ev⟩ := he.ex
  obtain ⟨u, pu, eu⟩ := hg.ex
  refine ⟨_, ps_asg pe pu hs hw h1, fun x Dn s p => ?_⟩
  refine ev.bind s p fun d y f1 s1 e1 v hv p1 => ?_
  show u v x.s y.H Dn.nx
  rw [← e1]
  refine eu y v d _ s1 hv ?_
  unfold mB at p1
  cases e : g d y.r with
  | exc c pl ρ => simp only [e] at p1; exact p1
  | bad => simp only [e] at p1; exact p1
  | ok z ρ =>
    simp only [e] at p1
    intro w hw fr sw
    rw [← hw] at p1
    exact p1 w rfl fr sw
/-- a, b = e1, e2 -/
def sPar2 (i j : Nat) (m : M (List D)) : M Fl := mB m fun ds => match ds with
  | [d, e] => mB (setv i d) fun _ => mB (setv j e) fun _ => mP .nx
  | _ => fun _ => .bad
theorem ss_par2 (i j : Nat) {x y : Str} {a b : Expr} {m : M (List D)} {px py pt pos : Pos} {kt k2 pt2} (hc : X.calm = true) (hN : X.N.Nodup) (ha : SD X W T [a, b] m) (hw : swappedStores [.Tuple [.Name x px, .Name y py] kt pt] (.Tuple [a, b] k2 pt2) X.env = pure (some [x, y]))
    (hi : X.N[i]? = some x := by rfl) (hj : X.N[j]? = some y := by rfl) (hij : i ≠ j := by decide) (hx : X.env.scope.names.lookup x = some .local := by rfl) (hy : X.env.scope.names.lookup y = some .local := by rfl) (hTi : i ∈ T := by decide) (hTj : j ∈ T := by decide)
    (hs : swapsWithSole [.Tuple [.Name x px, .Name y py] kt pt] (.Tuple [a, b] k2 pt2) pos.line X.env = pure false := by rfl) : SS X W T (.Assign [.Tuple [.Name x px, .Name y py] kt pt] (.Tuple [a, b] k2 pt2) pos) (sPar2 i j m) := by
  obtain ⟨ta, pa, ea⟩ := ha.ex
  refine ⟨_, ps_par hc hN hi hj hij hx hy pa hw hs, fun z Dn s p => ?_⟩
  refine ea.bind s p fun ds y f1 s1 e1 vs hv p1 => ?_
  match ds, hv with
  | [d, e], .cons (v := v) hd (.cons (v := w) he .nil) =>
    refine ⟨v, w, rfl, ?_⟩
    obtain ⟨p2, f2, s2⟩ := setv_run s1 hd hTi p1
    obtain ⟨p3, f3, s3⟩ := setv_run s2 he hTj p2
    show Dn.nx ((z.s.set i (some v)).set j (some w)) y.H
    rw [← e1]
    exact p3 _ rfl (Fr.refl T _) s3
  | [], _ => exact p1.elim
  | [_], _ => exact p1.elim
  | _ :: _ :: _ :: _, _ => exact p1.elim
def sPar3 (i j l : Nat) (m : M (List D)) : M Fl := mB m fun ds => match ds with
  | [d, e, g] => mB (setv i d) fun _ => mB (setv j e) fun _ => mB (setv l g) fun _ => mP .nx
  | _ => fun _ => .bad
theorem ss_par3 (i j l : Nat) {x y z : Str} {a b c : Expr} {m : M (List D)} {px py pz pt pos : Pos} {kt k2 pt2} (hc : X.calm = true) (hN : X.N.Nodup) (ha : SD X W T [a, b, c] m) (hw : swappedStores [.Tuple [.Name x px, .Name y py, .Name z pz] kt pt] (.Tuple [a, b, c] k2 pt2) X.env = pure (some [x, y, z]))
    (hi : X.N[i]? = some x := by rfl) (hj : X.N[j]? = some y := by rfl) (hl : X.N[l]? = some z := by rfl) (hij : i ≠ j := by decide) (hil : i ≠ l := by decide) (hjl : j ≠ l := by decide) (hx : X.env.scope.names.lookup x = some .local := by rfl) (hy : X.env.scope.names.lookup y = some .local := by rfl) (hz : X.env.scope.names.lookup z = some .local := by rfl) (hTi : i ∈ T := by decide) (hTj : j ∈ T := by decide) (hTl : l ∈ T := by decide)
    (hs : swapsWithSole [.Tuple [.Name x px, .Name y py, .Name z pz] kt pt] (.Tuple [a, b, c] k2 pt2) pos.line X.env = pure false := by rfl) : SS X W T (.Assign [.Tuple [.Name x px, .Name y py, .Name z pz] kt pt] (.Tuple [a, b, c] k2 pt2) pos) (sPar3 i j l m) := by
  obtain ⟨ta, pa, ea⟩ := ha.ex
  refine ⟨_, ps_par3 hc hN hi hj hl hij hil hjl hx hy hz pa hw hs, fun z Dn s p => ?_⟩
  refine ea.bind s p fun ds y f1 s1 e1 vs hv p1 => ?_
  match ds, hv with
  | [d, e, g], .cons (v := v) hd (.cons (v := w) he (.cons (v := u) hg .nil)) =>
    refine ⟨v, w, u, rfl, ?_⟩
    obtain ⟨p2, f2, s2⟩ := setv_run s1 hd hTi p1
    obtain ⟨p3, f3, s3⟩ := setv_run s2 he hTj p2
    obtain ⟨p4, f4, s4⟩ := setv_run s3 hg hTl p3
    show Dn.nx (((z.s.set i (some v)).set j (some w)).set l (some u)) y.H
    rw [← e1]
    exact p4 _ rfl (Fr.refl T _) s4
  | [], _ => exact p1.elim
  | [_], _ => exact p1.elim
  | [_, _], _ => exact p1.elim
  | _ :: _ :: _ :: _ :: _, _ => exact p1.elim
/-! ### found.append(e) -/
def appC (d : D) (ds : List D) : Option (List D) := if decide (ds.length < most) then some (ds ++ [d]) else none
def sApp (j : Nat) (m : M D) : M Fl := mB (hasC j) fun _ => mB m fun d => mB (updc j (appC d)) fun _ => mP .nx
theorem ss_app (j : Nat) {x : Str} {e : Expr} {f : M D} {p1 apos cpos pos : Pos} (he : SE X W T e f) (hN : X.N[j]? = some x := by rfl) (hv : Vis X.env.scope x := by first | exact Or.inl rfl | exact Or.inr (Or.inl rfl) | exact Or.inr (Or.inr rfl)) (hT : j ∈ T := by decide)
    (hd : (x == ("__debug__" : Str)) = false := by decide) (hc : (x == ("__classdict__" : Str)) = false := by decide)
    (hbase : attributeBase (.Name x p1) "append" X.env (eval (.Name x p1) X.env) = eval (.Name x p1) X.env := by rfl)
    (hfew : ((backTo cpos (starEach [e] X.env)).all (fun x => !x.1) && (backToKw cpos (keywordEach [] X.env)).all (fun x => x.1.isSome) && decide ([e].length + ([] : List Keyword).length + (if ([] : List Keyword).isEmpty then 0 else 1) < 30)) = true := by rfl)
    (hline : (apos.endLine == cpos.line) = true := by rfl) (hst : starEach [e] X.env = (false, eval e X.env) :: starEach [] X.env := by rfl) (hpl : (backTo cpos (starEach [] X.env)).any (·.1) = false := by rfl)
    (hs : swapsWith (.Call (.Attribute (.Name x p1) "append" apos) [e] [] cpos) none pos.line X.env = pure false := by rfl) : SS X W T (.Expr (.Call (.Attribute (.Name x p1) "append" apos) [e] [] cpos) pos) (sApp j f) := by
  obtain ⟨te, pe, ev⟩ := he.ex
  refine ⟨_, ps_expr (pe_bm PySem.F.plainAttrs_list PySem.F.slot_list_append PySem.F.type_list_append mt_append (pe_var (i := j) hN hv hd hc) (pa_cons pe pa_nil hst) hbase hfew hline hst hpl) hs, fun x Dn s p => ?_⟩
  obtain ⟨⟨k, ds, q, us, e0, hs, hq⟩, p1⟩ := hasC_run s p
  refine ⟨_, hs, .inl ⟨rfl, _, SqL.of hq⟩, ?_⟩
  refine ev.bind s p1 fun d y f1 s1 e1 v hv p2 => ?_
  obtain ⟨k2, ds2, es, q2, us2, h1, h2, h3, h4, h5⟩ := updc_run s1 hT p2
  rw [e1, hs] at h1
  cases h1
  unfold appC at h4
  by_cases c : decide (ds2.length < most) = true
  · rw [if_pos c] at h4
    cases h4
    obtain ⟨a, b, g⟩ := h5 (us2 ++ [v]) (h3.app (.cons hv .nil))
    refine ⟨q, us2, v, rfl, rfl, h2, by rw [h3.length]; exact Nat.lt_of_lt_of_le (of_decide_eq_true c) most_line, ?_⟩
    have := g _ rfl (Fr.refl T _) a
    show Dn.nx x.s _
    rw [← e1]
    exact this
  · rw [if_neg c] at h4
    cases h4
end
end FL
namespace FL
open PySem PySem.Spec L2
section
variable {X : Cx} {W : WX} {T : List Nat} {K : PySem.W.Frag}
/-! ### what is walked -/
/-- J gives the items ds, one after the other, as long as what is frozen at y stands -/
def WalkD (K : PySem.W.Frag) (J : It) (ds : List D) (y : Cf) : Prop :=
  ∃ (G : Hp → Prop) (Y : Nat → Hp → V → Hp → Prop), Walk J ds.length G Y ∧ (∀ z : Cf, RSt K z → Same y.F z.F → G z.H) ∧
    ∀ (i : Nat) (z : Cf) (v : V) (H' : Hp), RSt K z → Same y.F z.F → Y i z.H v H' → ∃ (z' : Cf) (d : D), Ext z z' ∧ z'.H = H' ∧ ds[i]? = some d ∧ Rep K z'.F v d
def EvI (X : Cx) (W : WX) (T : List Nat) (wi : TI) (f : M (List D)) : Prop := ∀ (x : Cf) (R : It → Hp → Prop), RSt X.K x → Post X.K X.mg T W x (f x.r) (fun ds y => y.s = x.s → ∀ J, WalkD X.K J ds y → R J y.H) → wi x.s x.H R
structure SI (X : Cx) (W : WX) (T : List Nat) (tg iter : Expr) (f : M (List D)) : Prop where
  ex : ∃ wi, PI X tg iter wi ∧ EvI X W T wi f
def rowD : D → Option (List D)
  | .tup ds => some ds
  | .lst ds => some ds
  | .scr ds => some ds
  | _ => none
def iRow (m : M D) : M (List D) := mB m fun d => mO (rowD d)
theorem walkL {a : Addr} {vs : List V} {ds : List D} {y : Cf} (h : SqL K y.F a vs) (r : RepL K y.F vs ds) : WalkD K (Itl K a) ds y := by
  refine ⟨_, _, r.length ▸ walk_list (K := K) (a := a) (xs := vs), fun z s e => s.sub.seq (e.seq h), fun i z v H' s e q => ?_⟩
  obtain ⟨rfl, q⟩ := q
  obtain ⟨d, h1, h2⟩ := r.get' q
  exact ⟨z, d, Ext.refl s, rfl, h1, h2.mono e⟩
theorem walkT {a : Addr} {vs : List V} {ds : List D} {y : Cf} (h : SqT K y.F a vs) (r : RepL K y.F vs ds) : WalkD K (Itt K a) ds y := by
  refine ⟨_, _, r.length ▸ walk_tup (K := K) (a := a) (xs := vs), fun z s e => sameT s.sub (sameT e h), fun i z v H' s e q => ?_⟩
  obtain ⟨rfl, q⟩ := q
  obtain ⟨d, h1, h2⟩ := r.get' q
  exact ⟨z, d, Ext.refl s, rfl, h1, h2.mono e⟩
theorem row_cases {F : Hp} {v : V} {d : D} {ds : List D} (h : Rep K F v d) (q : rowD d = some ds) : ∃ a vs, v = .ref a ∧ RepL K F vs ds ∧ (SqL K F a vs ∨ SqT K F a vs) := by
  cases h <;> try (simp [rowD] at q; done)
  · rename_i h1 h2; cases q; exact ⟨_, _, rfl, h2, .inr h1⟩
  · rename_i h1 h2; cases q; exact ⟨_, _, rfl, h2, .inl (SqL.of h1)⟩
  · rename_i h1 h2; cases q; exact ⟨_, _, rfl, h2, .inl h1⟩
theorem si_row {tg e : Expr} {f : M D} (h : SE X W T e f) : SI X W T tg e (iRow f) := by
  obtain ⟨te, pe, ev⟩ := h.ex
  refine ⟨_, pi_seq pe, fun x R s p => ?_⟩
  refine ev.bind s p fun d y f1 s1 e1 v hv p1 => ?_
  cases q : rowD d with
  | none => rw [q] at p1; exact p1.elim
  | some ds =>
    rw [q] at p1
    have p2 := p1 y rfl (Fr.refl T y) s1 e1
    obtain ⟨a, vs, rfl, r, h | h⟩ := row_cases hv q
    · exact ⟨a, rfl, .inl ⟨⟨vs, s1.sub.seq h⟩, p2 _ (walkL h r)⟩⟩
    · exact ⟨a, rfl, .inr ⟨⟨vs, sameT s1.sub h⟩, p2 _ (walkT h r)⟩⟩
def rgD (lo : Int) (n : Nat) : List D := (List.range n).map fun (i : Nat) => D.int (lo + (i : Int))
theorem rgD_len (lo : Int) (n : Nat) : (rgD lo n).length = n := by unfold rgD; rw [List.length_map, List.length_range]
theorem walkR {lo : Int} {n : Nat} {y : Cf} : WalkD K (Itr lo n) (rgD lo n) y := by
  have w : Walk (Itr lo n) (rgD lo n).length (fun _ => True) (fun i H v H' => H' = H ∧ v = V.int (lo + (i : Int)) ∧ i < n) := by
    rw [rgD_len]
    exact (walk_range (lo := lo) (n := n)).mono (fun _ _ => trivial) fun i H v H' hi _ q => ⟨q.1, q.2, hi⟩
  refine ⟨_, _, w, fun _ _ _ => trivial, fun i z v H' s e q => ?_⟩
  obtain ⟨rfl, rfl, q⟩ := q
  exact ⟨z, .int (lo + (i : Int)), Ext.refl s, rfl, by unfold rgD; rw [List.getElem?_map, List.getElem?_range q]; rfl, .int _⟩
def rgOk (i : Int) : Bool := decide (-1000000 ≤ i ∧ i ≤ 1000000)
theorem rgOk_62 {i : Int} (h : rgOk i = true) : -(2 ^ 62) ≤ i ∧ i < 2 ^ 62 := by
  obtain ⟨h1, h2⟩ := of_decide_eq_true h
  omega
def range1 : List D → Option (List D)
  | [.int j] => if rgOk j then some (rgD 0 j.toNat) else none
  | _ => none
def range2 : List D → Option (List D)
  | [.int i, .int j] => if rgOk i && rgOk j then some (rgD i (j - i).toNat) else none
  | _ => none
def iOf (o : List D → Option (List D)) (m : M (List D)) : M (List D) := mB m fun ds => mO (o ds)
theorem si_range1 {tg a : Expr} {f : M (List D)} {p pos : Pos} (hm : X.mg "range" = none) (ha : SD X W T [a] f) (hg : Gl X "range" := by rfl) (hs : starEach [a] X.env = [(false, eval a X.env)] := by rfl) : SI X W T tg (.Call (.Name "range" p) [a] [] pos) (iOf range1 f) := by
  obtain ⟨ta, pa, ea⟩ := ha.ex
  refine ⟨_, pi_range1 hg hm pa hs, fun x R s p => ?_⟩
  refine ea.bind s p fun ds y f1 s1 e1 vs hv p1 => ?_
  cases q : range1 ds with
  | none => rw [q] at p1; exact p1.elim
  | some es =>
    rw [q] at p1
    have p2 := p1 y rfl (Fr.refl T y) s1 e1
    match ds, hv with
    | [d], .cons hd .nil =>
      cases d <;> try (simp [range1] at q; done)
      rename_i j
      cases hd
      simp only [range1] at q
      split at q
      · rename_i c
        cases q
        exact ⟨j, rfl, (rgOk_62 c).1, (rgOk_62 c).2, p2 _ walkR⟩
      · cases q
    | [], _ => cases q
    | _ :: _ :: _, _ => simp [range1] at q
theorem si_range2 {tg a b : Expr} {f : M (List D)} {p pos : Pos} (hm : X.mg "range" = none) (ha : SD X W T [a, b] f) (hg : Gl X "range" := by rfl) (hs : starEach [a, b] X.env = [(false, eval a X.env), (false, eval b X.env)] := by rfl) (hs2 : starEach [b] X.env = [(false, eval b X.env)] := by rfl) :
    SI X W T tg (.Call (.Name "range" p) [a, b] [] pos) (iOf range2 f) := by
  obtain ⟨ta, pa, ea⟩ := ha.ex
  refine ⟨_, pi_range2 hg hm pa hs hs2, fun x R s p => ?_⟩
  refine ea.bind s p fun ds y f1 s1 e1 vs hv p1 => ?_
  cases q : range2 ds with
  | none => rw [q] at p1; exact p1.elim
  | some es =>
    rw [q] at p1
    have p2 := p1 y rfl (Fr.refl T y) s1 e1
    match ds, hv with
    | [d, e], .cons hd (.cons he .nil) =>
      cases d <;> try (cases e <;> simp [range2] at q <;> done)
      rename_i i
      cases e <;> try (simp [range2] at q; done)
      rename_i j
      cases hd
      cases he
      simp only [range2] at q
      split at q
      · rename_i c
        cases q
        obtain ⟨c1, c2⟩ := Bool.and_eq_true_iff.mp c
        exact ⟨i, j, rfl, ⟨(rgOk_62 c1).1, (rgOk_62 c1).2, (rgOk_62 c2).1, (rgOk_62 c2).2⟩, p2 _ walkR⟩
      · cases q
    | [], _ => cases q
    | [_], _ => simp [range2] at q
    | _ :: _ :: _ :: _, _ => simp [range2] at q
/-- the items with their places -/
def enumD (ds : List D) : List D := (List.range ds.length).map fun i => .tup [.int (i : Nat), ds.getD i .non]
theorem enumD_get {ds : List D} {i : Nat} {d : D} (h : ds[i]? = some d) : (enumD ds)[i]? = some (.tup [.int (i : Nat), d]) := by
  obtain ⟨hl, _⟩ := List.getElem?_eq_some_iff.mp h
  unfold enumD
  rw [List.getElem?_map, List.getElem?_range hl]
  show some (D.tup [.int (i : Nat), ds.getD i .non]) = _
  rw [List.getD_eq_getElem?_getD, h]
  rfl
theorem enumD_len (ds : List D) : (enumD ds).length = ds.length := by unfold enumD; rw [List.length_map, List.length_range]
theorem pair_step {z : Cf} {v : V} {H' : Hp} {fx fy : Option V} {d e : D} (s : RSt K z) (q : ∃ t x y, v = .ref t ∧ z.H t = none ∧ H' = upd z.H t (.tup [x, y]) ∧ fx = some x ∧ fy = some y)
    (hx : ∀ x, fx = some x → Rep K z.F x d) (hy : ∀ y, fy = some y → Rep K z.F y e) : ∃ z' : Cf, Ext z z' ∧ z'.H = H' ∧ Rep K z'.F v (.tup [d, e]) := by
  obtain ⟨t, x, y, rfl, h1, rfl, h2, h3⟩ := q
  obtain ⟨a, b⟩ := ext_tup s h1 (.cons (hx x h2) (.cons (hy y h3) .nil))
  exact ⟨_, a, rfl, b⟩
theorem walkE {a : Addr} {vs : List V} {ds : List D} {y : Cf} {J : It} {G : Hp → Prop} (w : Walk J vs.length G (YPair (fun i => some (.int (i : Nat))) (fun i => vs[i]?))) (r : RepL K y.F vs ds) (hG : ∀ z : Cf, RSt K z → Same y.F z.F → G z.H) : WalkD K J (enumD ds) y := by
  refine ⟨G, _, by rw [enumD_len, ← r.length]; exact w, hG, fun i z v H' s e q => ?_⟩
  have q' := q
  obtain ⟨_, _, _, _, _, _, _, h5⟩ := q'
  obtain ⟨d, h6, h7⟩ := r.get' h5
  obtain ⟨z', a1, a2, a3⟩ := pair_step (d := .int (i : Nat)) (e := d) s q (fun x hx => by cases hx; exact .int _) (fun y' hy => by
    have h8 : vs[i]? = some y' := hy
    have h9 : vs[i]? = some _ := h5
    rw [h9] at h8
    cases h8
    exact h7.mono e)
  exact ⟨z', _, a1, a2, enumD_get h6, a3⟩
def enum1 : List D → Option (List D)
  | [d] => (rowD d).map enumD
  | _ => none
theorem si_enum {e : Expr} {f : M (List D)} {p pos tpos : Pos} {elts : List Expr} {kk : Nat} (hm : X.mg "enumerate" = none) (ha : SD X W T [e] f) (hg : Gl X "enumerate" := by rfl) (hs : starEach [e] X.env = [(false, eval e X.env)] := by rfl) :
    SI X W T (.Tuple elts kk tpos) (.Call (.Name "enumerate" p) [e] [] pos) (iOf enum1 f) := by
  obtain ⟨ta, pa, ea⟩ := ha.ex
  refine ⟨_, pi_enumA hg hm pa hs, fun x R s p => ?_⟩
  refine ea.bind s p fun ds y f1 s1 e1 vs hv p1 => ?_
  cases q : enum1 ds with
  | none => rw [q] at p1; exact p1.elim
  | some es =>
    rw [q] at p1
    have p2 := p1 y rfl (Fr.refl T y) s1 e1
    match ds, hv with
    | [d], .cons hd .nil =>
      have q : (rowD d).map enumD = some es := q
      cases g : rowD d with
      | none => rw [g] at q; cases q
      | some gs =>
        rw [g] at q
        cases q
        obtain ⟨a, us, rfl, r, h | h⟩ := row_cases hd g
        · exact ⟨a, us, rfl, .inl ⟨s1.sub.seq h, p2 _ (walkE (a := a) walk_enum r fun z sz ez => sz.sub.seq (ez.seq h))⟩⟩
        · exact ⟨a, us, rfl, .inr ⟨sameT s1.sub h, p2 _ (walkE (a := a) walk_enT r fun z sz ez => sameT sz.sub (sameT ez h))⟩⟩
    | [], _ => cases q
    | _ :: _ :: _, _ => cases q
/-! ### for -/
def forD (g : D → M Unit) (b : M Fl) : List D → M Fl
  | [] => mP .nx
  | d :: ds => mB (g d) fun _ => mB b fun fl => match fl with
    | .nx => forD g b ds
    | .co => forD g b ds
    | .br => mP .nx
    | .rt d => mP (.rt d)
    | .rtL ds => mP (.rtL ds)
def sFor (it : M (List D)) (g : D → M Unit) (b : M Fl) : M Fl := mB it fun ds => forD g b ds
theorem drop_cons {α : Type} {l : List α} {i : Nat} {a : α} (h : l[i]? = some a) : l.drop i = a :: l.drop (i + 1) := by
  obtain ⟨hl, e⟩ := List.getElem?_eq_some_iff.mp h
  rw [List.drop_eq_getElem_cons hl, e]
theorem ss_for {tg iter : Expr} {body : List Stmt} {fi : M (List D)} {g : D → M Unit} {b : M Fl} {pos : Pos} (hc : X.calm = true) (hp : PassesOwn (model X.prog X.w) X.A X.env X.xe) (hi : SI X W T tg iter fi) (hg : SG X W T tg g) (hb : SSs X W T body b)
    (hs : ∀ x, foldedSetIterable iter X.env x = pure x := by intro _; rfl) : SS X W T (.For tg iter body [] pos) (sFor fi g b) := by
  obtain ⟨wi, pi, ei⟩ := hi.ex
  obtain ⟨u, pu, eu⟩ := hg.ex
  obtain ⟨t, pt, et⟩ := hb.ex
  refine ⟨_, ps_for hp hc pi pu pt hs, fun x Dn s p => ?_⟩
  refine ei x _ s ?_
  unfold sFor mB at p
  cases e0 : fi x.r with
  | exc c pl ρ => simp only [e0] at p; exact p
  | bad => simp only [e0] at p; exact p
  | ok ds ρ =>
    simp only [e0] at p
    intro y hy f1 s1 e1 J wk
    rw [← hy] at p
    obtain ⟨G, Y, w, hG, hY⟩ := wk
    have p1 : Post X.K X.mg T W y (forD g b ds y.r) (SQ X.K y Dn) := (p.shift f1).mono fun a z _ _ q => SQ.shift f1 q
    rw [← e1]
    refine for_it w (fun i σ H => ∃ z : Cf, z.s = σ ∧ z.H = H ∧ Fr T y z ∧ RSt X.K z ∧ Post X.K X.mg T W z (forD g b (ds.drop i) z.r) (SQ X.K z Dn)) ⟨y, rfl, rfl, Fr.refl T y, s1, by rw [List.drop_zero]; exact p1⟩ ?_ ?_ ?_
    · rintro i σ H hi ⟨z, rfl, rfl, fz, sz, pz⟩
      exact hG z sz fz.ff
    · rintro i v σ H H' hi ⟨z, rfl, rfl, fz, sz, pz⟩ hy2
      obtain ⟨z', d, ex, rfl, hd, hv⟩ := hY i z v H' sz fz.ff hy2
      have s3 := ex.rst sz
      rw [drop_cons hd, ← ex.r] at pz
      have p3 : Post X.K X.mg T W z' (forD g b (d :: ds.drop (i + 1)) z'.r) (SQ X.K z' Dn) := (pz.shift (ex.fr T)).mono fun a q _ _ h => SQ.shift (ex.fr T) h
      have f3 : Fr T y z' := fz.trans (ex.fr T)
      rw [← ex.s]
      refine eu z' v d _ s3 hv ?_
      unfold forD mB at p3
      cases e2 : g d z'.r with
      | exc c pl ρ => simp only [e2] at p3; exact p3
      | bad => simp only [e2] at p3; exact p3
      | ok _ ρ2 =>
        simp only [e2] at p3
        intro q hq fq sq
        rw [← hq] at p3
        have p4 := (p3.shift fq).mono (Q' := SQ X.K q Dn) fun a q2 _ _ h => SQ.shift fq h
        refine et q _ sq ?_
        cases e3 : b q.r with
        | exc c pl ρ => simp only [e3] at p4; exact p4
        | bad => simp only [e3] at p4; exact p4
        | ok fl ρ3 =>
          simp only [e3] at p4
          intro o ho fo so
          rw [← ho] at p4
          have f5 : Fr T y o := (f3.trans fq).trans fo
          cases fl with
          | nx => exact ⟨o, rfl, rfl, f5, so, (p4.shift fo).mono fun a q2 _ _ h => SQ.shift fo h⟩
          | co => exact ⟨o, rfl, rfl, f5, so, (p4.shift fo).mono fun a q2 _ _ h => SQ.shift fo h⟩
          | br => exact p4 o rfl fo so
          | rt d => exact p4 o rfl fo so
          | rtL ds => exact p4 o rfl fo so
    · rintro σ H ⟨z, rfl, rfl, fz, sz, pz⟩
      rw [List.drop_length] at pz
      exact pz z rfl (Fr.refl T z) sz
/-! ### while -/
def whileD (c : M Bool) (b : M Fl) : Nat → M Fl
  | 0 => fun _ => .bad
  | n + 1 => mB c fun k => if k then mB b fun fl => match fl with
    | .nx => whileD c b n
    | .co => whileD c b n
    | .br => mP .nx
    | .rt d => mP (.rt d)
    | .rtL ds => mP (.rtL ds)
    else mP .nx
theorem ss_while (n : Nat) {c : Expr} {body : List Stmt} {fc : M Bool} {b : M Fl} {pos : Pos} (hp : PassesOwn (model X.prog X.w) X.A X.env X.xe) (hc : ST X W T c fc) (hb : SSs X W T body b) : SS X W T (.While c body [] pos) (whileD fc b n) := by
  obtain ⟨tc, pc, ec⟩ := hc.ex
  obtain ⟨t, pt, et⟩ := hb.ex
  refine ⟨_, ps_while hp pc pt, fun x Dn s p => ?_⟩
  refine ⟨fun m σ H => ∃ z : Cf, z.s = σ ∧ z.H = H ∧ RSt X.K z ∧ Post X.K X.mg T W z (whileD fc b m z.r) (SQ X.K z Dn), ⟨n, x, rfl, rfl, s, p⟩, ?_⟩
  rintro m σ H ⟨z, rfl, rfl, sz, pz⟩
  cases m with
  | zero => exact pz.elim
  | succ m =>
    unfold whileD at pz
    refine ec.bind sz pz fun k y f1 s1 e1 p1 => ?_
    have p2 := p1.mono (Q' := SQ X.K y Dn) fun a q2 _ _ h => SQ.shift f1 h
    cases k with
    | false =>
      show Dn.nx z.s y.H
      rw [← e1]
      exact p2 y rfl (Fr.refl T y) s1
    | true =>
      simp only [if_true] at p2 ⊢
      refine ⟨fun σ' H' => ∃ z : Cf, z.s = σ' ∧ z.H = H' ∧ RSt X.K z ∧ Post X.K X.mg T W z (whileD fc b m z.r) (SQ X.K z Dn), fun σ' H' h => ⟨m, Nat.lt_succ_self m, h⟩, ?_⟩
      rw [← e1]
      refine et y _ s1 ?_
      unfold mB at p2
      cases e3 : b y.r with
      | exc c pl ρ => simp only [e3] at p2; exact p2
      | bad => simp only [e3] at p2; exact p2
      | ok fl ρ3 =>
        simp only [e3] at p2
        intro o ho fo so
        rw [← ho] at p2
        cases fl with
        | nx => exact ⟨o, rfl, rfl, so, (p2.shift fo).mono fun a q2 _ _ h => SQ.shift fo h⟩
        | co => exact ⟨o, rfl, rfl, so, (p2.shift fo).mono fun a q2 _ _ h => SQ.shift fo h⟩
        | br => exact p2 o rfl fo so
        | rt d => exact p2 o rfl fo so
        | rtL ds => exact p2 o rfl fo so
end
end FL
namespace FL
open PySem PySem.Spec L2
section
variable {K : PySem.W.Frag}
/-! ### slots wiped and put back -/
def wipeE (r : List Ent) : List Nat → List Ent
  | [] => r
  | v :: vs => (wipeE r vs).set v .no
theorem wipeE_length (r : List Ent) : ∀ vs : List Nat, (wipeE r vs).length = r.length
  | [] => rfl
  | v :: vs => by unfold wipeE; rw [List.length_set, wipeE_length r vs]
theorem wipeE_ne {r : List Ent} {i : Nat} : ∀ {vs : List Nat}, i ∉ vs → (wipeE r vs)[i]? = r[i]?
  | [], _ => rfl
  | v :: vs, h => by
    unfold wipeE
    have h1 : v ≠ i := fun e => h (by rw [e]; exact List.mem_cons_self)
    rw [List.getElem?_set_ne h1]
    exact wipeE_ne fun e => h (List.mem_cons_of_mem _ e)
theorem wipe_ne {σ : L2.St} {i : Nat} : ∀ {vs : List Nat}, i ∉ vs → (wipe σ vs)[i]? = σ[i]?
  | [], _ => rfl
  | v :: vs, h => by
    unfold wipe
    have h1 : v ≠ i := fun e => h (by rw [e]; exact List.mem_cons_self)
    rw [List.getElem?_set_ne h1]
    exact wipe_ne fun e => h (List.mem_cons_of_mem _ e)
theorem wipeE_in {r : List Ent} {i : Nat} {e : Ent} : ∀ {vs : List Nat}, i ∈ vs → (wipeE r vs)[i]? = some e → e = .no
  | v :: vs, h, q => by
    unfold wipeE at q
    rcases get_set q with ⟨_, e1, _⟩ | ⟨e1, g⟩
    · exact e1.symm
    · rcases List.mem_cons.mp h with z | z
      · exact (e1 z.symm).elim
      · exact wipeE_in z g
theorem wipe_in {σ : L2.St} {i : Nat} {v : Option V} : ∀ {vs : List Nat}, i ∈ vs → (wipe σ vs)[i]? = some v → v = none
  | u :: vs, h, q => by
    unfold wipe at q
    rcases get_set q with ⟨_, e1, _⟩ | ⟨e1, g⟩
    · exact e1.symm
    · rcases List.mem_cons.mp h with z | z
      · exact (e1 z.symm).elim
      · exact wipe_in z g
theorem wipe_eq {σ σ' : L2.St} {vs : List Nat} (hl : σ'.length = σ.length) (h : ∀ i, i ∉ vs → σ'[i]? = σ[i]?) : wipe σ' vs = wipe σ vs := by
  apply List.ext_getElem?
  intro i
  by_cases hi : i ∈ vs
  · have l1 : (wipe σ' vs).length = (wipe σ vs).length := by rw [wipe_length, wipe_length, hl]
    by_cases c : i < (wipe σ' vs).length
    · have c2 : i < (wipe σ vs).length := by rw [← l1]; exact c
      have e1 := List.getElem?_eq_getElem c
      have e2 := List.getElem?_eq_getElem c2
      rw [e1, e2, wipe_in hi e1, wipe_in hi e2]
    · rw [List.getElem?_eq_none (by omega), List.getElem?_eq_none (by omega)]
  · rw [wipe_ne hi, wipe_ne hi]; exact h i hi
theorem wipe_wipe (σ : L2.St) (vs : List Nat) : wipe (wipe σ vs) vs = wipe σ vs := wipe_eq (wipe_length σ vs) fun i hi => wipe_ne hi
/-- x without the slots vs -/
def wiped (x : Cf) (vs : List Nat) : Cf := ⟨x.F, x.H, wipe x.s vs, wipeE x.r vs⟩
theorem wiped_cel {x : Cf} {vs : List Nat} {i : Nat} {k : CK} {p : Addr} (h : CelAt (wiped x vs) i k p) : i ∉ vs ∧ CelAt x i k p := by
  obtain ⟨⟨ds, h1⟩, h2⟩ := h
  have h1' : (wipeE x.r vs)[i]? = some (.cel k ds) := h1
  have h2' : (wipe x.s vs)[i]? = some (some (.ref p)) := h2
  by_cases hi : i ∈ vs
  · cases wipeE_in hi h1'
  · rw [wipeE_ne hi] at h1'
    rw [wipe_ne hi] at h2'
    exact ⟨hi, ⟨ds, h1'⟩, h2'⟩
theorem wiped_ok {x : Cf} {T vs : List Nat} (s : RSt K x) (hT : ∀ i ∈ vs, i ∈ T) : Fr T x (wiped x vs) ∧ RSt K (wiped x vs) := by
  constructor
  · refine ⟨wipeE_length _ _, Same.refl _, fun _ h => h, fun a o e => .inl ⟨o, e⟩, fun a o e _ => e, fun i k p c => .inr (wiped_cel c).2, fun i hi => ?_⟩
    have hv : i ∉ vs := fun z => hi (hT i z)
    exact ⟨wipeE_ne hv, wipe_ne hv⟩
  · refine ⟨s.sub, by show (wipe x.s vs).length = (wipeE x.r vs).length; rw [wipe_length, wipeE_length]; exact s.len, fun i d h => ?_, fun i k es h => ?_, fun i j k l p c c' => s.dis i j k l p (wiped_cel c).2 (wiped_cel c').2⟩
    · have h' : (wipeE x.r vs)[i]? = some (.val d) := h
      by_cases hi : i ∈ vs
      · cases wipeE_in hi h'
      · rw [wipeE_ne hi] at h'
        obtain ⟨v, h1, h2⟩ := s.val i d h'
        exact ⟨v, by show (wipe x.s vs)[i]? = _; rw [wipe_ne hi]; exact h1, h2⟩
    · have h' : (wipeE x.r vs)[i]? = some (.cel k es) := h
      by_cases hi : i ∈ vs
      · cases wipeE_in hi h'
      · rw [wipeE_ne hi] at h'
        obtain ⟨p, h1, h2⟩ := s.cel i k es h'
        exact ⟨p, by show (wipe x.s vs)[i]? = _; rw [wipe_ne hi]; exact h1, h2⟩
def noCel (vs : List Nat) (r : List Ent) : Bool := vs.all fun i => match r[i]? with
  | some (.cel _ _) => false
  | _ => true
/-- the slots vs as they were in r0 -/
def putBack (r0 r : List Ent) : List Nat → List Ent
  | [] => r
  | v :: vs => match r0[v]? with
    | some e => (putBack r0 r vs).set v e
    | none => putBack r0 r vs
theorem putBack_length (r0 r : List Ent) : ∀ vs, (putBack r0 r vs).length = r.length
  | [] => rfl
  | v :: vs => by
    unfold putBack
    split
    · rw [List.length_set, putBack_length r0 r vs]
    · exact putBack_length r0 r vs
theorem putBack_ne {r0 r : List Ent} {i : Nat} : ∀ {vs : List Nat}, i ∉ vs → (putBack r0 r vs)[i]? = r[i]?
  | [], _ => rfl
  | v :: vs, h => by
    have h1 : v ≠ i := fun e => h (by rw [e]; exact List.mem_cons_self)
    have h2 := putBack_ne (r0 := r0) (r := r) fun e => h (List.mem_cons_of_mem v e)
    unfold putBack
    split
    · rw [List.getElem?_set_ne h1]; exact h2
    · exact h2
theorem putBack_in {r0 r : List Ent} {i : Nat} (hl : r.length = r0.length) : ∀ {vs : List Nat}, i ∈ vs → (putBack r0 r vs)[i]? = r0[i]?
  | v :: vs, h => by
    unfold putBack
    by_cases e : v = i
    · subst e
      split
      · rename_i en q
        rw [q]
        have : v < (putBack r0 r vs).length := by
          rw [putBack_length, hl]
          exact (List.getElem?_eq_some_iff.mp q).1
        exact List.getElem?_set_self this
      · rename_i q
        rw [q]
        refine List.getElem?_eq_none ?_
        rw [putBack_length, hl]
        exact List.getElem?_eq_none_iff.mp q
    · have hi : i ∈ vs := by
        rcases List.mem_cons.mp h with z | z
        · exact (e z.symm).elim
        · exact z
      have ih := putBack_in (r0 := r0) (r := r) hl hi
      split
      · rw [List.getElem?_set_ne e]; exact ih
      · exact ih
/-- an exception is not let out -/
def noX {α : Type} (m : M α) : M α := fun r => match m r with
  | .exc _ _ _ => .bad
  | o => o
theorem noX_post {α : Type} {mg : Str → Option Value} {T : List Nat} {W W' : WX} {x : Cf} {m : M α} {r : List Ent} {Q : α → Cf → Prop} (p : Post K mg T W x (noX m r) Q) : Post K mg T W' x (m r) Q := by
  unfold noX at p
  cases e : m r with
  | ok a ρ => simp only [e] at p; exact p
  | exc c pl ρ => simp only [e] at p; exact p.elim
  | bad => simp only [e] at p; exact p.elim
def compD (vs : List Nat) (g : D → M Unit) (t : M Bool) (e : M D) : List D → List D → M (List D)
  | [], acc => mP acc
  | d :: ds, acc => mB (noX (g d)) fun _ => mB (noX t) fun k => if k then mB (noX e) fun y r => if decide (acc.length < most) then compD vs g t e ds (acc ++ [y]) (wipeE r vs) else .bad
    else fun r => compD vs g t e ds acc (wipeE r vs)
/-- [e for g in it if t], vs the slots of the names of its own -/
def lComp (vs : List Nat) (it : M (List D)) (g : D → M Unit) (t : M Bool) (e : M D) : M (List D) := mB it fun ds r => if noCel vs r then (match compD vs g t e ds [] (wipeE r vs) with
  | .ok acc r2 => .ok acc (putBack r r2 vs)
  | _ => .bad) else .bad
end
section
variable {X : Cx} {W : WX} {T : List Nat} {K : PySem.W.Frag}
abbrev W0 : WX := fun _ _ _ _ => False
theorem noX_exc {α : Type} {m : M α} {r r' : List Ent} {c : Str} {pl : Option (Str × D)} : noX m r ≠ .exc c pl r' := by
  unfold noX
  intro h
  cases e : m r with
  | ok a ρ => simp only [e] at h; cases h
  | exc c pl ρ => simp only [e] at h; cases h
  | bad => simp only [e] at h; cases h
/-- a list of nobody's stands -/
theorem stays {x y : Cf} {q : Addr} {us : List V} (f : Fr T x y) (h1 : x.H q = some (.lst us)) (h2 : x.F q = none) (h3 : ∀ i k, ¬ CelAt x i k q) : y.H q = some (.lst us) ∧ y.F q = none ∧ ∀ i k, ¬ CelAt y i k q := by
  refine ⟨f.hp q _ h1 fun i _ k c => h3 i k c, ?_, fun i k c => ?_⟩
  · cases e : y.F q with
    | none => rfl
    | some o =>
      rcases f.nw q o e with ⟨u, g⟩ | g | ⟨i, g⟩
      · rw [h2] at g; cases g
      · rw [h1] at g; cases g
      · exact (h3 i _ g).elim
  · rcases f.cc i k q c with ⟨_, g⟩ | g
    · rw [h1] at g; cases g
    · exact h3 i k g
theorem bump {b a : Cf} {q : Addr} {o : HO} (f : Fr T b a) (s : RSt K a) (hb : b.H q = none) (h2 : a.F q = none) (h3 : ∀ i k, ¬ CelAt a i k q) : Fr T b ⟨a.F, upd a.H q o, a.s, a.r⟩ ∧ RSt K ⟨a.F, upd a.H q o, a.s, a.r⟩ := by
  constructor
  · refine ⟨f.ln, f.ff, fun p h => ?_, f.nw, fun p u h n => ?_, f.cc, f.un⟩
    · by_cases z : p = q
      · rw [z]; exact hb
      · exact f.dm p (by rw [← h]; exact (upd_ne z).symm)
    · have z : p ≠ q := by rintro rfl; rw [hb] at h; cases h
      show upd a.H q o p = some u
      rw [upd_ne z]; exact f.hp p u h n
  · refine ⟨fun p u h => ?_, s.len, s.val, fun i k es h => ?_, s.dis⟩
    · have z : p ≠ q := by rintro rfl; rw [h2] at h; cases h
      show upd a.H q o p = some u
      rw [upd_ne z]; exact s.sub p u h
    · obtain ⟨p, g1, us, g2, g3, g4⟩ := s.cel i k es h
      have z : p ≠ q := by rintro rfl; exact h3 i k ⟨⟨es, h⟩, g1⟩
      exact ⟨p, g1, us, g2, by show upd a.H q o p = _; rw [upd_ne z]; exact g3, g4⟩
theorem ev_comp {wi : TI} {g : TG} {tt : TT} {te : TE} {vs : List Nat} {fi : M (List D)} {fg : D → M Unit} {ft : M Bool} {fe : M D} (hT : ∀ i ∈ vs, i ∈ T)
    (ei : EvI X W T wi fi) (eg : EvG X W0 vs g fg) (et : EvT X W0 T tt ft) (ee : EvE X W0 T te fe) : EvL X W T (tLc wi g tt te vs) (lComp vs fi fg ft fe) := by
  intro x Q s p
  refine ei x _ s ?_
  unfold lComp mB at p
  cases e0 : fi x.r with
  | exc c pl ρ => simp only [e0] at p; exact p
  | bad => simp only [e0] at p; exact p
  | ok ds ρ =>
    simp only [e0] at p
    intro y hy f1 s1 e1 J wk
    rw [← hy] at p
    by_cases hno : noCel vs y.r = true
    case neg => rw [if_neg hno] at p; exact p.elim
    rw [if_pos hno] at p
    have p0 := p.shift f1
    clear p
    obtain ⟨G, Y, w, hG, hY⟩ := wk
    intro q hq
    obtain ⟨fw, sw⟩ := wiped_ok (T := T) s1 hT
    have hbq : (wiped y vs).H q = none := hq
    have nq : ∀ i k, ¬ CelAt (wiped y vs) i k q := fun i k c => not_cel s1 hq i k (wiped_cel c).2
    -- the end
    have key : ∀ (acc : List D) (r2 : List Ent) (z : Cf), compD vs fg ft fe ds [] (wipeE y.r vs) = .ok acc r2 → z.r = r2 → z.s = wipe y.s vs → Fr T (wiped y vs) z → RSt X.K z → (∀ i k, ¬ CelAt z i k q) →
        ∀ us, z.H q = some (.lst us) → z.F q = none → RepL X.K z.F us acc → Q (.ref q) z.H := by
      intro acc r2 z hc hz2 hz1 fz sz h4 us h1 h2 h3
      have p0 := p0
      rw [hc] at p0
      have f2 := fw.trans fz
      have lr : z.r.length = y.r.length := f2.ln
      have noc : ∀ i ∈ vs, ∀ k ds, y.r[i]? ≠ some (.cel k ds) := fun i hi k ds z => by
        have := List.all_eq_true.mp hno i hi
        rw [z] at this; cases this
      have celz : ∀ i k a, CelAt ⟨z.F, z.H, y.s, putBack y.r z.r vs⟩ i k a → CelAt z i k a := fun i k a ⟨⟨gs, g1⟩, g2⟩ => by
        have g1' : (putBack y.r z.r vs)[i]? = some (.cel k gs) := g1
        by_cases hi : i ∈ vs
        · rw [putBack_in lr hi] at g1'
          exact (noc i hi k gs g1').elim
        · rw [putBack_ne hi] at g1'
          refine ⟨⟨gs, g1'⟩, ?_⟩
          rw [hz1, wipe_ne hi]; exact g2
      refine p0 ⟨z.F, z.H, y.s, putBack y.r z.r vs⟩ (by rw [hz2]) ?_ ?_ e1 q us ⟨h1, h2, h3⟩ (f1.dm q hq) (fun i k c => h4 i k (celz i k q c))
      · refine ⟨(putBack_length _ _ _).trans lr, f2.ff, f2.dm, f2.nw, f2.hp, fun i k a c => f2.cc i k a (celz i k a c), fun i hi => ?_⟩
        have hv : i ∉ vs := fun z => hi (hT i z)
        refine ⟨?_, rfl⟩
        show (putBack y.r z.r vs)[i]? = y.r[i]?
        rw [putBack_ne hv]
        exact (f2.un i hi).1
      · refine ⟨sz.sub, by show y.s.length = (putBack y.r z.r vs).length; rw [putBack_length, lr]; exact s1.len, fun i d h => ?_, fun i k es h => ?_, fun i j k l a c c' => sz.dis i j k l a (celz _ _ _ c) (celz _ _ _ c')⟩
        · have h' : (putBack y.r z.r vs)[i]? = some (.val d) := h
          by_cases hi : i ∈ vs
          · rw [putBack_in lr hi] at h'
            obtain ⟨v, g1, g2⟩ := s1.val i d h'
            exact ⟨v, g1, g2.mono f2.ff⟩
          · rw [putBack_ne hi] at h'
            obtain ⟨v, g1, g2⟩ := sz.val i d h'
            rw [hz1, wipe_ne hi] at g1
            exact ⟨v, g1, g2⟩
        · have h' : (putBack y.r z.r vs)[i]? = some (.cel k es) := h
          by_cases hi : i ∈ vs
          · rw [putBack_in lr hi] at h'
            exact (noc i hi k es h').elim
          · rw [putBack_ne hi] at h'
            obtain ⟨a, g1, g2⟩ := sz.cel i k es h'
            rw [hz1, wipe_ne hi] at g1
            exact ⟨a, g1, g2⟩
    rw [← e1]
    obtain ⟨RR, hRR⟩ : ∃ RR, compD vs fg ft fe ds [] (wipeE y.r vs) = RR := ⟨_, rfl⟩
    rw [hRR] at p0
    simp only [hRR] at key
    let Pv : Nat → Hp → Prop := fun i H => ∃ (z : Cf) (acc : List D) (us : List V), z.s = wipe y.s vs ∧ z.H = H ∧ Fr T (wiped y vs) z ∧ RSt X.K z ∧ z.H q = some (.lst us) ∧ z.F q = none ∧ RepL X.K z.F us acc ∧
      (∀ i k, ¬ CelAt z i k q) ∧ compD vs fg ft fe (ds.drop i) acc z.r = RR
    have good : RR ≠ .bad := by intro z; rw [z] at p0; exact p0
    obtain ⟨b1, b2⟩ := bump (o := .lst []) (Fr.refl T (wiped y vs)) sw hbq (s1.sub.free hq) nq
    refine lc_it w (Qd := fun H => Q (.ref q) H) Pv ⟨_, [], [], rfl, rfl, b1, b2, upd_same, s1.sub.free hq, .nil, nq, by rw [List.drop_zero]; exact hRR⟩ ?_ ?_ ?_
    · rintro i H hi ⟨z, acc, us, _, rfl, fz, sz, _⟩
      exact hG z sz (fw.ff.trans fz.ff)
    · rintro i v H H' hi ⟨z, acc, us, zs, rfl, fz, sz, h1, h2, h3, h4, h5⟩ hy2
      obtain ⟨z', d, ex, rfl, hd, hv⟩ := hY i z v H' sz (fw.ff.trans fz.ff) hy2
      have s3 := ex.rst sz
      rw [drop_cons hd, ← ex.r] at h5
      have zs' : z'.s = wipe y.s vs := ex.s.trans zs
      have fz' : Fr T (wiped y vs) z' := fz.trans (ex.fr T)
      obtain ⟨i1, i2, i3⟩ := stays (ex.fr T) h1 h2 h4
      have h3' := h3.mono ex.ff
      rw [← zs']
      have c5 : compD vs fg ft fe (d :: ds.drop (i + 1)) acc z'.r ≠ .bad := by rw [h5]; exact good
      unfold compD mB at h5 c5
      refine eg z' v d _ s3 hv (noX_post (W := W0) ?_)
      cases eg1 : noX (fg d) z'.r with
      | bad => simp only [eg1] at c5; exact (c5 rfl).elim
      | exc c pl r => exact (noX_exc eg1).elim
      | ok _ ρ2 =>
        simp only [eg1] at h5 c5
        intro z2 hz2 f2 s2
        rw [← hz2] at h5 c5
        have f2T : Fr T z' z2 := f2.mono hT
        obtain ⟨j1, j2, j3⟩ := stays f2T i1 i2 i3
        have hw2 : wipe z2.s vs = wipe y.s vs := by
          have l2 : z2.s.length = z'.s.length := by rw [s2.len, s3.len]; exact f2.ln
          rw [wipe_eq l2 fun i hi => (f2.un i hi).2, zs', wipe_wipe]
        refine ⟨hw2.trans zs'.symm, ?_⟩
        refine et z2 _ s2 (noX_post (W := W0) ?_)
        cases et1 : noX ft z2.r with
        | bad => simp only [et1] at c5; exact (c5 rfl).elim
        | exc c pl r => exact (noX_exc et1).elim
        | ok b ρ3 =>
          simp only [et1] at h5 c5
          intro z3 hz3 f3 s3' e3
          rw [← hz3] at h5 c5
          obtain ⟨k1, k2, k3⟩ := stays f3 j1 j2 j3
          have fz3 : Fr T (wiped y vs) z3 := (fz'.trans f2T).trans f3
          cases b with
          | false =>
            simp only [Bool.false_eq_true, if_false] at h5 c5 ⊢
            obtain ⟨g1, g2⟩ := wiped_ok (T := T) s3' hT
            refine ⟨wiped z3 vs, acc, us, by show wipe z3.s vs = _; rw [e3, hw2], rfl, fz3.trans g1, g2, k1, k2, h3'.mono (f2.ff.trans f3.ff), fun i k c => k3 i k (wiped_cel c).2, ?_⟩
            exact h5
          | true =>
            simp only [if_true] at h5 c5 ⊢
            rw [← e3]
            refine ee z3 _ s3' (noX_post (W := W0) ?_)
            cases ee1 : noX fe z3.r with
            | bad => simp only [ee1] at c5; exact (c5 rfl).elim
            | exc c pl r => exact (noX_exc ee1).elim
            | ok d4 ρ4 =>
              simp only [ee1] at h5 c5
              intro z4 hz4 f4 s4 e4 v4 hv4
              rw [← hz4] at h5 c5
              obtain ⟨l1, l2, l3⟩ := stays f4 k1 k2 k3
              have fz4 := fz3.trans f4
              by_cases c : decide (acc.length < most) = true
              · rw [if_pos c] at h5 c5
                have hl : us.length < sizeLine := by rw [h3.length]; exact Nat.lt_of_lt_of_le (of_decide_eq_true c) most_line
                obtain ⟨g1, g2⟩ := wiped_ok (T := T) s4 hT
                obtain ⟨m1, m2⟩ := bump (o := .lst (us ++ [v4])) (fz4.trans g1) g2 hbq l2 fun i k c => l3 i k (wiped_cel c).2
                refine ⟨us, l1, hl, ⟨_, acc ++ [d4], us ++ [v4], ?_, rfl, m1, m2, upd_same, l2, ?_, fun i k c => l3 i k (wiped_cel (x := z4) ⟨c.1, c.2⟩).2, h5⟩⟩
                · show wipe z4.s vs = _
                  rw [e4, e3, hw2]
                · exact (h3'.mono (f2.ff.trans (f3.ff.trans f4.ff))).app (.cons hv4 .nil)
              · rw [if_neg c] at c5
                exact (c5 rfl).elim
    · rintro H ⟨z, acc, us, zs, rfl, fz, sz, h1, h2, h3, h4, h5⟩
      rw [List.drop_length] at h5
      exact key acc z.r z h5.symm rfl zs fz sz h4 us h1 h2 h3
end
end FL
namespace FL
open PySem PySem.Spec L2
section
variable {X : Cx} {W : WX} {T : List Nat} {K : PySem.W.Frag}
/-! ### comprehensions -/
structure STs (X : Cx) (W : WX) (T : List Nat) (es : List Expr) (f : M Bool) : Prop where
  ex : ∃ t, PTs X es t ∧ EvT X W T t f
theorem sts_nil : STs X W T [] (mP true) := ⟨_, pts_nil, fun x Q s p => p x rfl (Fr.refl T x) s rfl⟩
theorem sts_one {e : Expr} {f : M Bool} (h : ST X W T e f) : STs X W T [e] f := by
  obtain ⟨t, p, e⟩ := h.ex
  exact ⟨_, pts_one p, e⟩
/-! a reading that hangs on the plain function alone -/
def canE (K : PySem.W.Frag) (mg : Str → Option Value) (W : WX) (T : List Nat) (f : M D) : TE := fun σ H Q => ∃ x : Cf, x.s = σ ∧ x.H = H ∧ RSt K x ∧ Post K mg T W x (f x.r) (fun d y => y.s = x.s → ∀ v, Rep K y.F v d → Q v y.H)
def canT (K : PySem.W.Frag) (mg : Str → Option Value) (W : WX) (T : List Nat) (f : M Bool) : TT := fun σ H Q => ∃ x : Cf, x.s = σ ∧ x.H = H ∧ RSt K x ∧ Post K mg T W x (f x.r) (fun d y => y.s = x.s → Q d y.H)
def canG (K : PySem.W.Frag) (mg : Str → Option Value) (W : WX) (T : List Nat) (f : D → M Unit) : TG := fun v σ H Q => ∃ (x : Cf) (d : D), x.s = σ ∧ x.H = H ∧ RSt K x ∧ Rep K x.F v d ∧ Post K mg T W x (f d x.r) (fun _ y => Q y.s y.H)
def canI (K : PySem.W.Frag) (mg : Str → Option Value) (W : WX) (T : List Nat) (f : M (List D)) : TI := fun σ H R => ∃ x : Cf, x.s = σ ∧ x.H = H ∧ RSt K x ∧ Post K mg T W x (f x.r) (fun ds y => y.s = x.s → ∀ J, WalkD K J ds y → R J y.H)
theorem canE_ev {f : M D} : EvE X W T (canE X.K X.mg W T f) f := fun x Q s p => ⟨x, rfl, rfl, s, p⟩
theorem canT_ev {f : M Bool} : EvT X W T (canT X.K X.mg W T f) f := fun x Q s p => ⟨x, rfl, rfl, s, p⟩
theorem canG_ev {f : D → M Unit} : EvG X W T (canG X.K X.mg W T f) f := fun x v d Q s h p => ⟨x, d, rfl, rfl, s, h, p⟩
theorem canI_ev {f : M (List D)} : EvI X W T (canI X.K X.mg W T f) f := fun x Q s p => ⟨x, rfl, rfl, s, p⟩
theorem SE.can {e : Expr} {f : M D} (h : SE X W T e f) : PE X e (canE X.K X.mg W T f) := by
  obtain ⟨te, pe, ev⟩ := h.ex
  constructor
  rintro pins s σ H Q I ⟨x, rfl, rfl, sx, p⟩
  exact pe.run pins s x.s x.H Q I (ev x Q sx p)
theorem STs.can {e : List Expr} {f : M Bool} (h : STs X W T e f) : PTs X e (canT X.K X.mg W T f) := by
  obtain ⟨te, pe, ev⟩ := h.ex
  constructor
  rintro pins s σ H Q I ⟨x, rfl, rfl, sx, p⟩
  exact pe.run pins s x.s x.H Q I (ev x Q sx p)
theorem SG.can {e : Expr} {f : D → M Unit} (h : SG X W T e f) : PG X e (canG X.K X.mg W T f) := by
  obtain ⟨te, pe, ev⟩ := h.ex
  constructor
  rintro pins s σ H v u Q I r ⟨x, d, rfl, rfl, sx, hv, p⟩
  exact pe.run pins s x.s x.H v u Q I r (ev x v d Q sx hv p)
theorem SI.can {tg e : Expr} {f : M (List D)} (h : SI X W T tg e f) : PI X tg e (canI X.K X.mg W T f) := by
  obtain ⟨te, pe, ev⟩ := h.ex
  constructor
  rintro pins s σ H R I ⟨x, rfl, rfl, sx, p⟩
  exact pe.run pins s x.s x.H R I (ev x R sx p)
theorem el_comp (own : List (Str × Nat)) {elt tg iter : Expr} {ifs : List Expr} {scope : Scope} {pos : Pos} {fi : M (List D)} {fg : D → M Unit} {ft : M Bool} {fe : M D} (hc : X.calm = true) (hN : X.N.Nodup) (hi : SI X W T tg iter fi)
    (hg : ∀ (s : Shared) (H : Hp) (C : Addr) (cl : List (Str × Addr)) (fp : List Addr), SG (X.blk s H scope (compEnvC scope cl C X.env) fp) W0 (own.map (·.2)) tg fg)
    (ht : ∀ (s : Shared) (H : Hp) (C : Addr) (cl : List (Str × Addr)) (fp : List Addr), STs (X.blk s H scope (compEnvC scope cl C X.env) fp) W0 T ifs ft)
    (he : ∀ (s : Shared) (H : Hp) (C : Addr) (cl : List (Str × Addr)) (fp : List Addr), SE (X.blk s H scope (compEnvC scope cl C X.env) fp) W0 T elt fe)
    (ok : BlkOk X.N X.env.scope scope own) (hT : ∀ i ∈ own.map (·.2), i ∈ T := by decide) (hs : ∀ x, foldedSetIterable iter X.env x = pure x := by intro _; rfl) : SL X W T (.ListComp elt [⟨tg, iter, ifs, 0⟩] scope pos) (lComp (own.map (·.2)) fi fg ft fe) := by
  obtain ⟨wi, pi, ei⟩ := hi.ex
  exact ⟨_, pe_lc hc hN pi ok (g := canG X.K X.mg W0 (own.map (·.2)) fg) (tt := canT X.K X.mg W0 T ft) (te := canE X.K X.mg W0 T fe) (fun s H C cl fp => (hg s H C cl fp).can) (fun s H C cl fp => (ht s H C cl fp).can) (fun s H C cl fp => (he s H C cl fp).can) hs,
    ev_comp hT ei canG_ev canT_ev canE_ev⟩
/-- y = [..], y a plain local -/
theorem ss_setComp (i : Nat) (own : List (Str × Nat)) {y : Str} {py : Pos} {elt tg iter : Expr} {ifs : List Expr} {scope : Scope} {pos spos : Pos} {fi : M (List D)} {fg : D → M Unit} {ft : M Bool} {fe : M D} (hc : X.calm = true) (hN : X.N.Nodup) (hi : SI X W T tg iter fi)
    (hg : ∀ (s : Shared) (H : Hp) (C : Addr) (cl : List (Str × Addr)) (fp : List Addr), SG (X.blk s H scope (compEnvC scope cl C X.env) fp) W0 (own.map (·.2)) tg fg)
    (ht : ∀ (s : Shared) (H : Hp) (C : Addr) (cl : List (Str × Addr)) (fp : List Addr), STs (X.blk s H scope (compEnvC scope cl C X.env) fp) W0 T ifs ft)
    (he : ∀ (s : Shared) (H : Hp) (C : Addr) (cl : List (Str × Addr)) (fp : List Addr), SE (X.blk s H scope (compEnvC scope cl C X.env) fp) W0 T elt fe)
    (ok : BlkOk X.N X.env.scope scope own) (hsw : swapsWith (.ListComp elt [⟨tg, iter, ifs, 0⟩] scope pos) (some (.Name y py)) spos.line X.env = pure true)
    (hy : X.N[i]? = some y := by rfl) (hyl : X.env.scope.names.lookup y = some .local := by rfl) (hTi : i ∈ T := by decide) (hT : ∀ i ∈ own.map (·.2), i ∈ T := by decide) (hs : ∀ x, foldedSetIterable iter X.env x = pure x := by intro _; rfl) :
    SS X W T (.Assign [.Name y py] (.ListComp elt [⟨tg, iter, ifs, 0⟩] scope pos) spos) (sSet i (xFz (lComp (own.map (·.2)) fi fg ft fe))) := by
  obtain ⟨wi, pi, ei⟩ := hi.ex
  exact ⟨_, ps_setLc hc hN hy hyl hsw pi ok (g := canG X.K X.mg W0 (own.map (·.2)) fg) (tt := canT X.K X.mg W0 T ft) (te := canE X.K X.mg W0 T fe) (fun s H C cl fp => (hg s H C cl fp).can) (fun s H C cl fp => (ht s H C cl fp).can) (fun s H C cl fp => (he s H C cl fp).can) hs,
    ev_set i (ev_comp hT ei canG_ev canT_ev canE_ev).fz hTi⟩
theorem ss_setCompL (i : Nat) (own : List (Str × Nat)) {y : Str} {py : Pos} {elt tg iter : Expr} {ifs : List Expr} {scope : Scope} {pos spos : Pos} {fi : M (List D)} {fg : D → M Unit} {ft : M Bool} {fe : M D} (hc : X.calm = true) (hN : X.N.Nodup) (hi : SI X W T tg iter fi)
    (hg : ∀ (s : Shared) (H : Hp) (C : Addr) (cl : List (Str × Addr)) (fp : List Addr), SG (X.blk s H scope (compEnvC scope cl C X.env) fp) W0 (own.map (·.2)) tg fg)
    (ht : ∀ (s : Shared) (H : Hp) (C : Addr) (cl : List (Str × Addr)) (fp : List Addr), STs (X.blk s H scope (compEnvC scope cl C X.env) fp) W0 T ifs ft)
    (he : ∀ (s : Shared) (H : Hp) (C : Addr) (cl : List (Str × Addr)) (fp : List Addr), SE (X.blk s H scope (compEnvC scope cl C X.env) fp) W0 T elt fe)
    (ok : BlkOk X.N X.env.scope scope own) (hsw : swapsWith (.ListComp elt [⟨tg, iter, ifs, 0⟩] scope pos) (some (.Name y py)) spos.line X.env = pure true)
    (hy : X.N[i]? = some y := by rfl) (hyl : X.env.scope.names.lookup y = some .local := by rfl) (hTi : i ∈ T := by decide) (hT : ∀ i ∈ own.map (·.2), i ∈ T := by decide) (hs : ∀ x, foldedSetIterable iter X.env x = pure x := by intro _; rfl) :
    SS X W T (.Assign [.Name y py] (.ListComp elt [⟨tg, iter, ifs, 0⟩] scope pos) spos) (sSetL i (lComp (own.map (·.2)) fi fg ft fe)) := by
  obtain ⟨wi, pi, ei⟩ := hi.ex
  exact ⟨_, ps_setLc hc hN hy hyl hsw pi ok (g := canG X.K X.mg W0 (own.map (·.2)) fg) (tt := canT X.K X.mg W0 T ft) (te := canE X.K X.mg W0 T fe) (fun s H C cl fp => (hg s H C cl fp).can) (fun s H C cl fp => (ht s H C cl fp).can) (fun s H C cl fp => (he s H C cl fp).can) hs,
    ev_setL i (ev_comp hT ei canG_ev canT_ev canE_ev) hTi⟩
end
end FL
namespace FL
open PySem PySem.Spec L2
section
open PyProof.Rows
variable {X : Cx}
/-! min, max of a tuple of ints -/
theorem reads_ints {h : Heap} : ∀ {us : List Value} {ns : List Int}, IntsAre us ns → ReadsAll h us (ns.map PyData.int) []
  | _, _, .nil => .nil
  | _, _, .cons n t r => .cons (.int n t) (reads_ints r)
theorem alike_ints (ns : List Int) : PySem.W.AlikeAll (ns.map PyData.int) := by
  refine ⟨fun x hx y hy => ?_, fun x hx => ?_⟩
  · obtain ⟨i, _, rfl⟩ := List.mem_map.mp hx
    obtain ⟨j, _, rfl⟩ := List.mem_map.mp hy
    rfl
  · obtain ⟨i, _, rfl⟩ := List.mem_map.mp hx
    exact fun z => nomatch z
theorem depth_ints : ∀ ns : List Int, PyData.depthAll (ns.map PyData.int) ≤ 1
  | [] => by decide
  | n :: ns => by
    have := depth_ints ns
    show max (PyData.depth (.int n)) (PyData.depthAll (ns.map PyData.int)) ≤ 1
    have e : PyData.depth (.int n) ≤ 1 := by simp [PyData.depth]
    omega
theorem fold_min : ∀ (ns : List Int) (n : Int), (ns.foldl min n = n ∨ ns.foldl min n ∈ ns) ∧ ns.foldl min n ≤ n ∧ ∀ y ∈ ns, ns.foldl min n ≤ y
  | [], n => ⟨.inl rfl, Int.le_refl _, fun y h => nomatch h⟩
  | a :: ns, n => by
    obtain ⟨h1, h2, h3⟩ := fold_min ns (min n a)
    refine ⟨?_, ?_, fun y hy => ?_⟩
    · rcases h1 with h1 | h1
      · show ns.foldl min (min n a) = n ∨ _
        rw [h1]
        by_cases c : n ≤ a
        · exact .inl (by omega)
        · exact .inr (by rw [List.foldl_cons, h1, show min n a = a by omega]; exact List.mem_cons_self)
      · exact .inr (List.mem_cons_of_mem _ h1)
    · show ns.foldl min (min n a) ≤ n
      omega
    · show ns.foldl min (min n a) ≤ y
      rcases List.mem_cons.mp hy with rfl | hy
      · omega
      · exact h3 y hy
def rMinQ (K : PySem.W.Frag) : List V → Hp → VK → Prop := fun vs H Q => ∃ (a : Addr) (ns : List Int), vs = [V.ref a] ∧ (SqL K H a (ns.map V.int) ∨ SqT K H a (ns.map V.int)) ∧ 0 < ns.length ∧ ∀ m, m ∈ ns → (∀ y, y ∈ ns → m ≤ y) → Q (.int m) H
theorem cr_minQ (hc : X.calm = true) (hu : X.A.units + 64 < cLine) : CallR X (.builtin "min") (rMinQ X.K) := by
  intro pins s σ H vs us Q I r h
  obtain ⟨a, ns, rfl, hs | hs, hne, q⟩ := h
  · exact cr_min hc _ _ _ _ _ _ _ I r ⟨a, ns, rfl, hs, hne, q⟩
  · obtain ⟨its, rv, hl, _⟩ := I.tuple hs
    rw [Vals.ref1 r]
    have hi := rv.ints
    match ns, hne with
    | n :: ns, _ =>
      have d := depth_ints (n :: ns)
      refine PySem.W.min_tuple_data (vs := its.toArray) (x := .int n) (xs := ns.map PyData.int) (I.ok.hd hc) hl (by simpa using reads_ints hi) (alike_ints (n :: ns)) (by show X.A.units + 1 + PyData.depthAll ((n :: ns).map PyData.int) < cLine; omega) fun i v h' tk bs hv rd hk => ?_
      rw [PySem.W.minD_ints] at rd
      obtain ⟨t, rfl⟩ : ∃ t, v = .int (ns.foldl min n) t := by
        cases rd
        exact ⟨_, rfl⟩
      obtain ⟨f1, f2, f3⟩ := fold_min ns n
      refine ⟨.int _, H, I.kept hk, ⟨_, rfl⟩, q _ ?_ fun y hy => ?_⟩
      · rcases f1 with f1 | f1
        · rw [f1]; exact List.mem_cons_self
        · exact List.mem_cons_of_mem _ f1
      · rcases List.mem_cons.mp hy with rfl | hy
        · exact f2
        · exact f3 y hy
end
section
variable {X : Cx} {W : WX} {T : List Nat} {K : PySem.W.Frag} {x : Str} {st : Stmt} {ps : List Str} {k : Nat} {F : List Ent → R D} {e : Expr} {es : List Expr} {p pos : Pos}
/-! ### built-ins by name -/
def lenB : List D → Option D
  | [.tup ds] => some (.int ds.length)
  | [.lst ds] => some (.int ds.length)
  | [.scr ds] => some (.int ds.length)
  | [.str z] => if decide (z.length ≤ most) then some (.int z.length) else none
  | _ => none
theorem one_arg {F : Hp} {vs : List V} {d : D} (h : RepL K F vs [d]) : ∃ v, vs = [v] ∧ Rep K F v d := by
  cases h with
  | cons h r => cases r; exact ⟨_, rfl, h⟩
theorem two_args {F : Hp} {vs : List V} {d e : D} (h : RepL K F vs [d, e]) : ∃ v w, vs = [v, w] ∧ Rep K F v d ∧ Rep K F w e := by
  cases h with
  | cons h r =>
    obtain ⟨w, rfl, g⟩ := one_arg r
    exact ⟨_, w, rfl, h, g⟩
theorem ok_len : CallOk K (fun xs H Q => ∃ x n, xs = [x] ∧ LenV K x H n ∧ Q (.int n) H) lenB := by
  intro x vs ds z Q s hv q k
  match ds, q with
  | [.tup gs], q =>
    obtain ⟨v, rfl, h⟩ := one_arg hv
    cases q
    cases h with
    | tup h r => exact ⟨_, _, rfl, .inr ⟨_, sameT s.sub h, rfl⟩, by rw [r.length]; exact k x _ (Ext.refl s) (.int _)⟩
  | [.lst gs], q =>
    obtain ⟨v, rfl, h⟩ := one_arg hv
    cases q
    cases h with
    | lst h r => exact ⟨_, _, rfl, .inl ⟨_, SqL.of (s.sub _ _ h), rfl⟩, by rw [r.length]; exact k x _ (Ext.refl s) (.int _)⟩
  | [.scr gs], q =>
    obtain ⟨v, rfl, h⟩ := one_arg hv
    cases q
    cases h with
    | scr h r => exact ⟨_, _, rfl, .inl ⟨_, s.sub.seq h, rfl⟩, by rw [r.length]; exact k x _ (Ext.refl s) (.int _)⟩
  | [.str y], q =>
    obtain ⟨v, rfl, h⟩ := one_arg hv
    simp only [lenB] at q
    split at q
    · rename_i c
      cases q
      cases h
      exact ⟨_, _, rfl, ⟨of_most c, rfl⟩, k x _ (Ext.refl s) (.int _)⟩
    · cases q
def int1 (g : Int → Int) : List D → Option D
  | [.int i] => some (.int (g i))
  | _ => none
def int2 (g : Int → Int → Int) : List D → Option D
  | [.int i, .int j] => some (.int (g i j))
  | _ => none
theorem ok_int1 {g : Int → Int} : CallOk K (fun xs H Q => ∃ i, xs = [.int i] ∧ Q (.int (g i)) H) (int1 g) := by
  intro x vs ds z Q s hv q k
  match ds, q with
  | [.int i], q =>
    obtain ⟨v, rfl, h⟩ := one_arg hv
    cases q
    cases h
    exact ⟨i, rfl, k x _ (Ext.refl s) (.int _)⟩
theorem ok_int2 {g : Int → Int → Int} : CallOk K (fun xs H Q => ∃ i j, xs = [.int i, .int j] ∧ Q (.int (g i j)) H) (int2 g) := by
  intro x vs ds z Q s hv q k
  match ds, q with
  | [.int i, .int j], q =>
    obtain ⟨v, w, rfl, h, h2⟩ := two_args hv
    cases q
    cases h
    cases h2
    exact ⟨i, j, rfl, k x _ (Ext.refl s) (.int _)⟩
def absB : List D → Option D := int1 fun i => if i < 0 then -i else i
def max2B : List D → Option D := int2 fun i j => if j > i then j else i
def min2B : List D → Option D := int2 fun i j => if j < i then j else i
def intB : List D → Option D
  | [.int i] => some (.int i)
  | [.bl b] => some (.int (if b then 1 else 0))
  | _ => none
theorem ok_int : CallOk K (fun xs H Q => (∃ i, xs = [.int i] ∧ Q (.int i) H) ∨ ∃ k, xs = [.bl k] ∧ Q (.int (if k then 1 else 0)) H) intB := by
  intro x vs ds z Q s hv q k
  match ds, q with
  | [.int i], q =>
    obtain ⟨v, rfl, h⟩ := one_arg hv
    cases q
    cases h
    exact .inl ⟨i, rfl, k x _ (Ext.refl s) (.int _)⟩
  | [.bl b], q =>
    obtain ⟨v, rfl, h⟩ := one_arg hv
    cases q
    cases h
    exact .inr ⟨b, rfl, k x _ (Ext.refl s) (.int _)⟩
def strB : List D → Option D
  | [.int i] => if decide (i.natAbs.log2 < 1920) then some (.str (toString i)) else none
  | _ => none
theorem ok_str : CallOk K (fun xs H Q => ∃ i, xs = [.int i] ∧ i.natAbs.log2 < 1920 ∧ Q (.str (toString i)) H) strB := by
  intro x vs ds z Q s hv q k
  match ds, q with
  | [.int i], q =>
    obtain ⟨v, rfl, h⟩ := one_arg hv
    simp only [strB] at q
    split at q
    · rename_i c
      cases q
      cases h
      exact ⟨i, rfl, of_decide_eq_true c, k x _ (Ext.refl s) (.str _)⟩
    · cases q
/-- the name of a value's type -/
def tyN : D → Option String
  | .non => some "NoneType"
  | .bl _ => some "bool"
  | .int _ => some "int"
  | .str _ => some "str"
  | .tup _ => some "tuple"
  | .lst _ => some "list"
  | .dct _ => some "dict"
  | _ => none
def isB : List D → Option D
  | [d, .opq (.ty n)] => match tyN d with
    | some m => (kitB m n).map .bl
    | none => none
  | _ => none
theorem tyX_of {F H : Hp} {v : V} {d : D} {m : String} (e : Same F H) (h : Rep K F v d) (q : tyN d = some m) : TyX K H v (.type m) := by
  cases h <;> try (simp [tyN] at q; done)
  · cases q; exact .base .non
  · cases q; exact .base (.bl _)
  · cases q; exact .base (.int _)
  · cases q; exact .base (.str _)
  · rename_i h r
    cases q
    rcases h with (h | ⟨o, h⟩) | ⟨o, its, n, h, hc, _⟩
    · exact .base (.tup (e _ _ h))
    · exact .fTuple (e _ _ h)
    · exact .kTuple h hc
  · rename_i h r; cases q; exact .base (.lst (e _ _ h))
  · rename_i h r; cases q; exact .base (.dK (e _ _ h))
theorem ok_is : CallOk K (rIsi K) isB := by
  intro x vs ds z Q s hv q k
  match ds, q with
  | [d, .opq (.ty n)], q =>
    obtain ⟨v, w, rfl, h, h2⟩ := two_args hv
    cases h2
    simp only [isB] at q
    split at q
    · rename_i m hm
      cases g : kitB m n with
      | none => rw [g] at q; cases q
      | some b =>
        rw [g] at q
        cases q
        exact ⟨_, _, .type m, .type n, b, rfl, .ty n, tyX_of s.sub h hm, kit_ty g, k x _ (Ext.refl s) (.bl b)⟩
    · cases q
/-- a built-in type's name as a value -/
theorem se_type {n : Str} {t : String} {pos : Pos} (hm : X.mg n = none) (hv : bootBuiltins n = some (.type t)) (hg : Gl X n := by rfl) (hn : n ≠ "__name__" := by decide) (hd : (n == ("__debug__" : Str)) = false := by decide) : SE X W T (.Name n pos) (xC (.opq (.ty t))) :=
  ⟨_, pe_bltn (v := .ty t) hg hm hv rfl hn hd, ev_const fun _ => .opq _⟩
def tupB : List D → Option D
  | [.tup ds] => some (.tup ds)
  | [.lst ds] => some (.tup ds)
  | [.scr ds] => some (.tup ds)
  | _ => none
theorem ok_tup : CallOk K (fun xs H Q => ∃ p ys, xs = [.ref p] ∧ ((SqL K H p ys ∧ ∀ l, H l = none → Q (.ref l) (upd H l (.tup ys))) ∨ (SqT K H p ys ∧ Q (.ref p) H))) tupB := by
  intro x vs ds z Q s hv q k
  have new : ∀ {us : List V} {gs : List D}, RepL K x.F us gs → z = .tup gs → ∀ l, x.H l = none → Q (.ref l) (upd x.H l (.tup us)) := fun r e l hl => by
    subst e
    obtain ⟨a, b⟩ := ext_tup s hl r
    exact k _ _ a b
  match ds, q with
  | [.tup gs], q =>
    obtain ⟨v, rfl, h⟩ := one_arg hv
    cases q
    have h' := h
    cases h with
    | tup h r => exact ⟨_, _, rfl, .inr ⟨sameT s.sub h, k x _ (Ext.refl s) h'⟩⟩
  | [.lst gs], q =>
    obtain ⟨v, rfl, h⟩ := one_arg hv
    cases q
    cases h with
    | lst h r => exact ⟨_, _, rfl, .inl ⟨SqL.of (s.sub _ _ h), new r rfl⟩⟩
  | [.scr gs], q =>
    obtain ⟨v, rfl, h⟩ := one_arg hv
    cases q
    cases h with
    | scr h r => exact ⟨_, _, rfl, .inl ⟨s.sub.seq h, new r rfl⟩⟩
/-- numbers, truths alone -/
def numsOf : List D → Option (List Int)
  | [] => some []
  | .int i :: r => (numsOf r).map (i :: ·)
  | _ => none
def trusOf : List D → Option (List Bool)
  | [] => some []
  | .bl b :: r => (trusOf r).map (b :: ·)
  | _ => none
theorem ints_rep {F : Hp} : ∀ {us : List V} {ds : List D} {ns : List Int}, RepL K F us ds → numsOf ds = some ns → us = ns.map V.int
  | _, _, _, .nil, h => by cases h; rfl
  | _, _, ns, .cons (d := .int i) (ds := ds) h r, q => by
    simp only [numsOf] at q
    cases g : numsOf ds with
    | none => rw [g] at q; cases q
    | some ms =>
      rw [g] at q
      cases q
      cases h
      rw [ints_rep r g]; rfl
theorem bools_rep {F : Hp} : ∀ {us : List V} {ds : List D} {bs : List Bool}, RepL K F us ds → trusOf ds = some bs → us = bs.map V.bl
  | _, _, _, .nil, h => by cases h; rfl
  | _, _, ns, .cons (d := .bl i) (ds := ds) h r, q => by
    simp only [trusOf] at q
    cases g : trusOf ds with
    | none => rw [g] at q; cases q
    | some ms =>
      rw [g] at q
      cases q
      cases h
      rw [bools_rep r g]; rfl
def sumB : List D → Option D
  | [.lst ds] => (numsOf ds).map fun ns => .int ns.sum
  | [.tup ds] => (numsOf ds).map fun ns => .int ns.sum
  | _ => none
def rSum2 (K : PySem.W.Frag) : List V → Hp → VK → Prop := fun vs H Q => rSum K vs H Q ∨ rSumT K vs H Q
theorem cr_sum2 (hc : X.calm = true) : CallR X (.builtin "sum") (rSum2 X.K) := by
  intro pins s σ H vs us Q I r h
  rcases h with h | h
  · exact cr_sum hc pins s σ H vs us Q I r h
  · exact cr_sumT hc pins s σ H vs us Q I r h
theorem ok_sum : CallOk K (rSum2 K) sumB := by
  intro x vs ds z Q s hv q k
  match ds, q with
  | [.lst gs], q =>
    obtain ⟨v, rfl, h⟩ := one_arg hv
    simp only [sumB] at q
    cases g : numsOf gs with
    | none => rw [g] at q; cases q
    | some ns =>
      rw [g] at q
      cases q
      cases h with
      | lst h r =>
        have := ints_rep r g
        subst this
        exact .inl ⟨_, ns, rfl, SqL.of (s.sub _ _ h), k x _ (Ext.refl s) (.int _)⟩
  | [.tup gs], q =>
    obtain ⟨v, rfl, h⟩ := one_arg hv
    simp only [sumB] at q
    cases g : numsOf gs with
    | none => rw [g] at q; cases q
    | some ns =>
      rw [g] at q
      cases q
      cases h with
      | tup h r =>
        have := ints_rep r g
        subst this
        exact .inr ⟨_, ns, rfl, sameT s.sub h, k x _ (Ext.refl s) (.int _)⟩
def anyB : List D → Option D
  | [.lst ds] => (trusOf ds).map fun bs => .bl (bs.any id)
  | _ => none
def allB : List D → Option D
  | [.lst ds] => (trusOf ds).map fun bs => .bl (bs.all id)
  | _ => none
theorem ok_any : CallOk K (rAny K) anyB := by
  intro x vs ds z Q s hv q k
  match ds, q with
  | [.lst gs], q =>
    obtain ⟨v, rfl, h⟩ := one_arg hv
    simp only [anyB] at q
    cases g : trusOf gs with
    | none => rw [g] at q; cases q
    | some ns =>
      rw [g] at q
      cases q
      cases h with
      | lst h r =>
        have := bools_rep r g
        subst this
        exact ⟨_, ns, rfl, SqL.of (s.sub _ _ h), k x _ (Ext.refl s) (.bl _)⟩
theorem ok_all : CallOk K (rAll K) allB := by
  intro x vs ds z Q s hv q k
  match ds, q with
  | [.lst gs], q =>
    obtain ⟨v, rfl, h⟩ := one_arg hv
    simp only [allB] at q
    cases g : trusOf gs with
    | none => rw [g] at q; cases q
    | some ns =>
      rw [g] at q
      cases q
      cases h with
      | lst h r =>
        have := bools_rep r g
        subst this
        exact ⟨_, ns, rfl, SqL.of (s.sub _ _ h), k x _ (Ext.refl s) (.bl _)⟩
def maxL : List Int → Option Int
  | [] => none
  | i :: r => some (r.foldl max i)
def minL : List Int → Option Int
  | [] => none
  | i :: r => some (r.foldl min i)
theorem foldl_max : ∀ (r : List Int) (i : Int), (r.foldl max i = i ∨ r.foldl max i ∈ r) ∧ i ≤ r.foldl max i ∧ ∀ y ∈ r, y ≤ r.foldl max i
  | [], i => ⟨.inl rfl, Int.le_refl i, fun y h => nomatch h⟩
  | a :: r, i => by
    obtain ⟨h1, h2, h3⟩ := foldl_max r (max i a)
    show (r.foldl max (max i a) = i ∨ r.foldl max (max i a) ∈ a :: r) ∧ i ≤ r.foldl max (max i a) ∧ ∀ y ∈ a :: r, y ≤ r.foldl max (max i a)
    refine ⟨?_, by omega, fun y hy => ?_⟩
    · rcases h1 with h1 | h1
      · by_cases c : a ≤ i
        · left; rw [h1]; omega
        · right; rw [h1, show max i a = a by omega]; exact List.mem_cons_self
      · exact .inr (List.mem_cons_of_mem _ h1)
    · rcases List.mem_cons.mp hy with z | z
      · omega
      · exact h3 y z
theorem foldl_min : ∀ (r : List Int) (i : Int), (r.foldl min i = i ∨ r.foldl min i ∈ r) ∧ r.foldl min i ≤ i ∧ ∀ y ∈ r, r.foldl min i ≤ y
  | [], i => ⟨.inl rfl, Int.le_refl i, fun y h => nomatch h⟩
  | a :: r, i => by
    obtain ⟨h1, h2, h3⟩ := foldl_min r (min i a)
    show (r.foldl min (min i a) = i ∨ r.foldl min (min i a) ∈ a :: r) ∧ r.foldl min (min i a) ≤ i ∧ ∀ y ∈ a :: r, r.foldl min (min i a) ≤ y
    refine ⟨?_, by omega, fun y hy => ?_⟩
    · rcases h1 with h1 | h1
      · by_cases c : i ≤ a
        · left; rw [h1]; omega
        · right; rw [h1, show min i a = a by omega]; exact List.mem_cons_self
      · exact .inr (List.mem_cons_of_mem _ h1)
    · rcases List.mem_cons.mp hy with z | z
      · omega
      · exact h3 y z
theorem maxL_mem {ns : List Int} {m : Int} (h : maxL ns = some m) : m ∈ ns ∧ ∀ y ∈ ns, y ≤ m := by
  cases ns with
  | nil => cases h
  | cons i r =>
    cases h
    obtain ⟨h1, h2, h3⟩ := foldl_max r i
    refine ⟨?_, fun y hy => ?_⟩
    · rcases h1 with h1 | h1
      · rw [h1]; exact List.mem_cons_self
      · exact List.mem_cons_of_mem _ h1
    · rcases List.mem_cons.mp hy with z | z
      · rw [z]; exact h2
      · exact h3 y z
theorem minL_mem {ns : List Int} {m : Int} (h : minL ns = some m) : m ∈ ns ∧ ∀ y ∈ ns, m ≤ y := by
  cases ns with
  | nil => cases h
  | cons i r =>
    cases h
    obtain ⟨h1, h2, h3⟩ := foldl_min r i
    refine ⟨?_, fun y hy => ?_⟩
    · rcases h1 with h1 | h1
      · rw [h1]; exact List.mem_cons_self
      · exact List.mem_cons_of_mem _ h1
    · rcases List.mem_cons.mp hy with z | z
      · rw [z]; exact h2
      · exact h3 y z
def maxB : List D → Option D
  | [.lst ds] => (numsOf ds).bind fun ns => (maxL ns).map .int
  | _ => none
def minB : List D → Option D
  | [.lst ds] => (numsOf ds).bind fun ns => (minL ns).map .int
  | [.tup ds] => (numsOf ds).bind fun ns => (minL ns).map .int
  | _ => none
theorem ok_max : CallOk K (rMax K) maxB := by
  intro x vs ds z Q s hv q k
  match ds, q with
  | [.lst gs], q =>
    obtain ⟨v, rfl, h⟩ := one_arg hv
    simp only [maxB] at q
    cases g : numsOf gs with
    | none => rw [g] at q; cases q
    | some ns =>
      rw [g] at q
      cases g2 : maxL ns with
      | none => simp only [Option.bind_some, g2] at q; cases q
      | some m =>
        simp only [Option.bind_some, g2] at q
        cases q
        cases h with
        | lst h r =>
          have := ints_rep r g
          subst this
          refine ⟨_, ns, rfl, SqL.of (s.sub _ _ h), ?_, fun m' h1 h2 => ?_⟩
          · cases ns with
            | nil => cases g2
            | cons _ _ => exact Nat.succ_pos _
          · obtain ⟨h3, h4⟩ := maxL_mem g2
            have : m' = m := Int.le_antisymm (h4 m' h1) (h2 m h3)
            subst this
            exact k x _ (Ext.refl s) (.int _)
theorem ok_min : CallOk K (rMinQ K) minB := by
  intro x vs ds z Q s hv q k
  match ds, q with
  | [.lst gs], q =>
    obtain ⟨v, rfl, h⟩ := one_arg hv
    simp only [minB] at q
    cases g : numsOf gs with
    | none => rw [g] at q; cases q
    | some ns =>
      rw [g] at q
      cases g2 : minL ns with
      | none => simp only [Option.bind_some, g2] at q; cases q
      | some m =>
        simp only [Option.bind_some, g2] at q
        cases q
        cases h with
        | lst h r =>
          have := ints_rep r g
          subst this
          refine ⟨_, ns, rfl, .inl (SqL.of (s.sub _ _ h)), ?_, fun m' h1 h2 => ?_⟩
          · cases ns with
            | nil => cases g2
            | cons _ _ => exact Nat.succ_pos _
          · obtain ⟨h3, h4⟩ := minL_mem g2
            have : m' = m := Int.le_antisymm (h2 m h3) (h4 m' h1)
            subst this
            exact k x _ (Ext.refl s) (.int _)
  | [.tup gs], q =>
    obtain ⟨v, rfl, h⟩ := one_arg hv
    simp only [minB] at q
    cases g : numsOf gs with
    | none => rw [g] at q; cases q
    | some ns =>
      rw [g] at q
      cases g2 : minL ns with
      | none => simp only [Option.bind_some, g2] at q; cases q
      | some m =>
        simp only [Option.bind_some, g2] at q
        cases q
        cases h with
        | tup h r =>
          have := ints_rep r g
          subst this
          refine ⟨_, ns, rfl, .inr (sameT s.sub h), ?_, fun m' h1 h2 => ?_⟩
          · cases ns with
            | nil => cases g2
            | cons _ _ => exact Nat.succ_pos _
          · obtain ⟨h3, h4⟩ := minL_mem g2
            have : m' = m := Int.le_antisymm (h2 m h3) (h4 m' h1)
            subst this
            exact k x _ (Ext.refl s) (.int _)
def dmB : List D → Option D
  | [.int i, .int j] => if decide (0 < j ∧ j < 1073741824) then some (.tup [.int (i / j), .int (i % j)]) else none
  | _ => none
theorem ok_dm : CallOk K (fun xs H Q => ∃ i j, xs = [.int i, .int j] ∧ CDiv i j ∧ ∀ p, H p = none → Q (.ref p) (upd H p (.tup [.int (i / j), .int (i % j)]))) dmB := by
  intro x vs ds z Q s hv q k
  match ds, q with
  | [.int i, .int j], q =>
    obtain ⟨v, w, rfl, h, h2⟩ := two_args hv
    cases h
    cases h2
    simp only [dmB] at q
    split at q
    · rename_i c
      cases q
      refine ⟨i, j, rfl, (of_decide_eq_true c : 0 < j ∧ j < 1073741824), fun p hp => ?_⟩
      obtain ⟨a, b⟩ := ext_tup s hp (.cons (.int (i / j)) (.cons (.int (i % j)) .nil))
      exact k _ _ a b
    · cases q
def gcdB : List D → Option D := int2 fun a b => ((Nat.gcd a.natAbs b.natAbs : Nat) : Int)
theorem se_gcd {id : String} {r : List V → Hp → VK → Prop} {o : List D → Option D} {fa : M (List D)} (hc : CallR X (.builtin id) r) (h : CallOk X.K r o) (hm : X.mg x = some (.builtin id)) (ha : SD X W T (e :: es) fa) (hg : Gl X x := by rfl)
    (hdb : (x == ("__debug__" : Str)) = false := by decide) (he : starEach (e :: es) X.env = (false, eval e X.env) :: starEach es X.env := by rfl) (hpl : (backTo pos (starEach es X.env)).any (·.1) = false := by rfl) : SE X W T (.Call (.Name x p) (e :: es) [] pos) (xB o fa) := by
  obtain ⟨ta, pa, ea⟩ := ha.ex
  exact ⟨_, pe_callBfun hc hg hm pa hdb he hpl, ev_b h ea⟩
/-- list(x): a new list -/
def listB : List D → Option (List D)
  | [.tup ds] => some ds
  | [.lst ds] => some ds
  | [.scr ds] => some ds
  | _ => none
def lB (o : List D → Option (List D)) (m : M (List D)) : M (List D) := mB m fun ds => mO (o ds)
theorem el_list {fa : M (List D)} (hm : X.mg x = none) (ha : SD X W T (e :: es) fa) (hv : bootBuiltins x = some (.type "list")) (hg : Gl X x := by rfl) (hn : x ≠ "__name__" := by decide)
    (hdb : (x == ("__debug__" : Str)) = false := by decide) (he : starEach (e :: es) X.env = (false, eval e X.env) :: starEach es X.env := by rfl) (hpl : (backTo pos (starEach es X.env)).any (·.1) = false := by rfl) : SL X W T (.Call (.Name x p) (e :: es) [] pos) (lB listB fa) := by
  obtain ⟨ta, pa, ea⟩ := ha.ex
  refine ⟨_, pe_callTy call_list_of hg hm hv pa hn hdb he hpl, fun x Q s p => ?_⟩
  refine ea.bind s p fun ds y f1 s1 e1 vs hv p1 => ?_
  cases q : listB ds with
  | none => rw [q] at p1; exact p1.elim
  | some gs =>
    rw [q] at p1
    have new : ∀ {us : List V}, RepL X.K y.F us gs → ∀ l, y.H l = none → Q (.ref l) (upd y.H l (.lst us)) := fun {us} r l hl => by
      have ex := Ext.raw (o := .lst us) s1 hl
      exact Post.here p1 ex s1 (ex.s.trans e1) l us ⟨upd_same, s1.sub.free hl, r⟩ (f1.dm l hl) fun i k c => not_cel s1 hl i k c
    match ds, q with
    | [.tup gs], q =>
      obtain ⟨v, rfl, h⟩ := one_arg hv
      cases q
      cases h with
      | tup h r => exact ⟨_, _, rfl, .inr (sameT s1.sub h), new r⟩
    | [.lst gs], q =>
      obtain ⟨v, rfl, h⟩ := one_arg hv
      cases q
      cases h with
      | lst h r => exact ⟨_, _, rfl, .inl (SqL.of (s1.sub _ _ h)), new r⟩
    | [.scr gs], q =>
      obtain ⟨v, rfl, h⟩ := one_arg hv
      cases q
      cases h with
      | scr h r => exact ⟨_, _, rfl, .inl (s1.sub.seq h), new r⟩
end
end FL
namespace FL
open PySem PySem.Spec L2
open PyProof.Rows (envOfC)
section
variable {X : Cx} {W : WX} {T : List Nat} {K : PySem.W.Frag} {x : Str} {st : Stmt} {ps : List Str} {k : Nat} {F : List Ent → R D} {e : Expr} {es : List Expr} {p pos : Pos}
/-! ### a def's body -/
def outs (io : Option Nat) (r : List Ent) : Option (List Ent) := match io with
  | none => some []
  | some i => match r[i]? with
    | some (.cel .io ds) => some [.cel .io ds]
    | _ => none
/-- what the def is, as a plain function: n its names, b its body -/
def defF (io : Option Nat) (fr : Bool) (n : Nat) (b : M Fl) : List Ent → R D := fun es => match b (es ++ List.replicate (n - es.length) .no) with
  | .ok fl r => match outs io r with
    | some o => match fl, fr with
      | .nx, false => .ok .non o
      | .rt d, false => .ok d o
      | .rtL ds, true => .ok (.lst ds) o
      | _, _ => .bad
    | none => .bad
  | .exc c pl r => match outs io r with
    | some o => .exc c pl o
    | none => .bad
  | .bad => .bad
/-- the state of the body at the entry -/
def bodyOf (x : Cf) (m : Nat) : Cf := ⟨x.F, x.H, x.s ++ List.replicate m none, x.r ++ List.replicate m .no⟩
theorem app_get {α : Type} {l : List α} {m : Nat} {a b : α} {i : Nat} (h : (l ++ List.replicate m a)[i]? = some b) : l[i]? = some b ∨ b = a := by
  by_cases c : i < l.length
  · rw [List.getElem?_append_left c] at h; exact .inl h
  · rw [List.getElem?_append_right (by omega), List.getElem?_replicate] at h
    split at h
    · exact .inr (Option.some.inj h).symm
    · cases h
theorem app_left {α : Type} {l l' : List α} {i : Nat} {b : α} (h : l[i]? = some b) : (l ++ l')[i]? = some b := by
  have := (List.getElem?_eq_some_iff.mp h).1
  rw [List.getElem?_append_left this]; exact h
theorem body_cel {x : Cf} {m i : Nat} {k : CK} {p : Addr} (h : CelAt (bodyOf x m) i k p) (hl : x.s.length = x.r.length) : CelAt x i k p := by
  obtain ⟨⟨ds, h1⟩, h2⟩ := h
  rcases app_get (show (x.r ++ List.replicate m Ent.no)[i]? = some (.cel k ds) from h1) with g | g
  · rcases app_get (show (x.s ++ List.replicate m none)[i]? = some (some (.ref p)) from h2) with g2 | g2
    · exact ⟨⟨ds, g⟩, g2⟩
    · cases g2
  · cases g
theorem body_ok {x : Cf} {m : Nat} (s : RSt K x) : RSt K (bodyOf x m) where
  sub := s.sub
  len := by show (x.s ++ List.replicate m none).length = (x.r ++ List.replicate m Ent.no).length; simp [s.len]
  val := fun i d h => by
    rcases app_get (show (x.r ++ List.replicate m Ent.no)[i]? = some (.val d) from h) with g | g
    · obtain ⟨v, h1, h2⟩ := s.val i d g
      exact ⟨v, app_left h1, h2⟩
    · cases g
  cel := fun i k ds h => by
    rcases app_get (show (x.r ++ List.replicate m Ent.no)[i]? = some (.cel k ds) from h) with g | g
    · obtain ⟨v, h1, h2⟩ := s.cel i k ds g
      exact ⟨v, app_left h1, h2⟩
    · cases g
  dis := fun i j k l p h1 h2 => s.dis i j k l p (body_cel h1 s.len) (body_cel h2 s.len)
theorem body_end {x y : Cf} {m : Nat} {io : Option Nat} {o : List Ent} (s : RSt K x) (hio : ∀ i k p, CelAt x i k p → io = some i ∧ k = .io) (f : Fr T (bodyOf x m) y) (sy : RSt K y) (ho : outs io y.r = some o) :
    Fr io.toList x ⟨y.F, y.H, x.s, outR io x.r o⟩ ∧ RSt K ⟨y.F, y.H, x.s, outR io x.r o⟩ := by
  have cb : ∀ i k p, CelAt (bodyOf x m) i k p → CelAt x i k p := fun i k p c => body_cel c s.len
  -- the changed list, if any
  have keyr : ∀ i e, (outR io x.r o)[i]? = some e → x.r[i]? = some e ∨ (io = some i ∧ ∃ ds, e = .cel .io ds ∧ y.r[i]? = some (.cel .io ds)) := by
    intro i e h
    cases io with
    | none => exact .inl h
    | some j =>
      unfold outs at ho
      simp only at ho
      split at ho
      · rename_i ds g
        cases ho
        rcases get_set (show (x.r.set j (.cel .io ds))[i]? = some e from h) with ⟨e1, e2, _⟩ | ⟨e1, g2⟩
        · subst e1
          exact .inr ⟨rfl, ds, e2.symm, g⟩
        · exact .inl g2
      · cases ho
  have keyc : ∀ i k p, CelAt ⟨y.F, y.H, x.s, outR io x.r o⟩ i k p → CelAt x i k p := by
    rintro i k p ⟨⟨ds, h1⟩, h2⟩
    rcases keyr i (.cel k ds) h1 with g | ⟨g1, es, g2, g3⟩
    · exact ⟨⟨ds, g⟩, h2⟩
    · injection g2 with g4 g5
      subst g4 g5
      obtain ⟨q, h3, us, h4, h5, h6⟩ := sy.cel i _ _ g3
      rcases f.cc i _ q ⟨⟨_, g3⟩, h3⟩ with ⟨z, _⟩ | z
      · cases z
      · obtain ⟨z1, z2⟩ := cb _ _ _ z
        exact ⟨z1, h2⟩
  have lenr : (outR io x.r o).length = x.r.length := by
    unfold outR
    split
    · exact List.length_set ..
    · rfl
  constructor
  · refine ⟨lenr, f.ff, f.dm, fun a u h => ?_, fun a u h n => ?_, fun i k p c => .inr (keyc i k p c), fun i hi => ⟨?_, rfl⟩⟩
    · rcases f.nw a u h with g | g | ⟨i, g⟩
      · exact .inl g
      · exact .inr (.inl g)
      · have := (hio i _ a (cb _ _ _ g)).2
        cases this
    · refine f.hp a u h fun i _ k c => ?_
      have c' := cb _ _ _ c
      have := (hio i k a c').1
      exact n i (by rw [this]; exact List.mem_singleton.mpr rfl) k c'
    · cases e : (outR io x.r o)[i]? with
      | none =>
        rw [List.getElem?_eq_none_iff] at e
        exact (List.getElem?_eq_none (by omega)).symm
      | some en =>
        rcases keyr i en e with g | ⟨g, _⟩
        · exact g.symm
        · rw [g] at hi; exact (hi (List.mem_singleton.mpr rfl)).elim
  · refine ⟨sy.sub, by show x.s.length = (outR io x.r o).length; rw [lenr]; exact s.len, fun i d h => ?_, fun i k es h => ?_, fun i j k l p c c' => s.dis i j k l p (keyc _ _ _ c) (keyc _ _ _ c')⟩
    · rcases keyr i _ h with g | ⟨_, ds, g, _⟩
      · obtain ⟨v, h1, h2⟩ := s.val i d g
        exact ⟨v, h1, h2.mono f.ff⟩
      · cases g
    · rcases keyr i _ h with g | ⟨_, ds, g, g3⟩
      · -- a caller's list that is not given back: there is none
        obtain ⟨p, h1, _⟩ := s.cel i k es g
        obtain ⟨e1, e2⟩ := hio i k p ⟨⟨es, g⟩, h1⟩
        subst e1 e2
        have h' := h
        unfold outs at ho
        simp only at ho
        split at ho
        · rename_i ds g3
          cases ho
          rcases get_set (show (x.r.set i (.cel .io ds))[i]? = some (.cel .io es) from h') with ⟨_, e3, _⟩ | ⟨e3, _⟩
          · cases e3
            obtain ⟨q, h3, h4⟩ := sy.cel i _ es g3
            rcases f.cc i _ q ⟨⟨es, g3⟩, h3⟩ with ⟨z, _⟩ | z
            · cases z
            · have z2 := (cb _ _ _ z).2
              exact ⟨q, z2, h4⟩
          · exact (e3 rfl).elim
        · cases ho
      · cases g
        obtain ⟨q, h3, h4⟩ := sy.cel i _ es g3
        rcases f.cc i _ q ⟨⟨es, g3⟩, h3⟩ with ⟨z, _⟩ | z
        · cases z
        · exact ⟨q, (cb _ _ _ z).2, h4⟩
/-- THE RULE for a def -/
theorem def_ok {P : Program} {w : World} {K : PySem.W.Frag} {mg : Str → Option Value} {base : Heap} {x : Str} {st : Stmt} {N ps : List Str} {k : Nat} {io : Option Nat} {fr : Bool} {T : List Nat} {b : M Fl}
    (hd : ∃ f fd, mg x = some (.ref f) ∧ Fun K x x st f fd ∧ Binds K fd ps []) (S : FnScope N ps (defScope st))
    (body : ∀ (f : Addr) (cdv : Value) (A : Around) (outer : List Env) (s : Shared) (H : Hp) (E : XK), Room k (A.deeper (envOfC x (defScope st) s.heap.objs.size f cdv)) →
      Takes (cxOf (L2.CX P w) P w K mg base N x (defScope st) f cdv A outer s H E) (fun cls d _ H => E cls d H) → PassesOwn (model P w) (A.deeper (envOfC x (defScope st) s.heap.objs.size f cdv)) (envOfC x (defScope st) s.heap.objs.size f cdv) (cxOf (L2.CX P w) P w K mg base N x (defScope st) f cdv A outer s H E).xe →
      SSs (cxOf (L2.CX P w) P w K mg base N x (defScope st) f cdv A outer s H E) (fun cls d _ H => E cls d H) T (defBody st) b) :
    DefOk P w K mg base x st ps (k + 1) io fr (defF io fr N.length b) := by
  obtain ⟨f, fd, hm, Fn, hb⟩ := hd
  refine ⟨f, fd, hm, Fn.kp, Fn, ?_, hb⟩
  refine Fn.okX S (fun vs H Q E h => h.1) fun cdv A outer s H vs Q E hr h => ?_
  obtain ⟨ts, pts, ev⟩ := (body f cdv A outer s H E hr (takes_of rfl rfl rfl rfl) (passes_of rfl)).ex
  refine ⟨ts, pts, ?_⟩
  obtain ⟨hl, z, rfl, hs, sz, hio, hp⟩ := h
  have hzl : z.s.length = ps.length := by rw [hs, List.length_map]; exact hl
  have e1 : L2.start N vs = (bodyOf z (N.length - z.r.length)).s := by
    unfold L2.start bodyOf
    rw [hs, ← sz.len, hs, List.length_map]
  rw [e1]
  refine ev (bodyOf z (N.length - z.r.length)) _ (body_ok sz) ?_
  have e2 : (bodyOf z (N.length - z.r.length)).r = z.r ++ List.replicate (N.length - z.r.length) Ent.no := rfl
  unfold defF at hp
  rw [e2]
  cases q : b (z.r ++ List.replicate (N.length - z.r.length) Ent.no) with
  | bad => rw [q] at hp; exact hp.elim
  | exc c pl ρ =>
    rw [q] at hp
    intro y cls dx hy fy sy w
    rw [← hy] at hp
    simp only at hp
    split at hp
    · rename_i o ho
      obtain ⟨g1, g2⟩ := body_end sz hio fy sy ho
      exact hp ⟨y.F, y.H, z.s, outR io z.r o⟩ cls dx rfl rfl g1 g2 w
    · exact hp.elim
  | ok fl ρ =>
    rw [q] at hp
    intro y hy fy sy
    rw [← hy] at hp
    simp only at hp
    split at hp
    · rename_i o ho
      obtain ⟨g1, g2⟩ := body_end sz hio fy sy ho
      cases fl with
      | nx =>
        cases fr with
        | true => exact hp.elim
        | false => exact hp ⟨y.F, y.H, z.s, outR io z.r o⟩ rfl rfl g1 g2 _ Rep.non
      | br => cases fr <;> exact hp.elim
      | co => cases fr <;> exact hp.elim
      | rt d =>
        cases fr with
        | true => exact hp.elim
        | false => exact fun v hv => hp ⟨y.F, y.H, z.s, outR io z.r o⟩ rfl rfl g1 g2 v hv
      | rtL ds =>
        cases fr with
        | false => exact hp.elim
        | true =>
          intro p us h1 h2
          have h3 : z.H p = none := by
            rcases h2 with h2 | ⟨i, h2⟩
            · exact h2
            · have := (hio i _ p (body_cel h2 sz.len)).2
              cases this
          exact hp ⟨y.F, y.H, z.s, outR io z.r o⟩ rfl rfl g1 g2 (.ref p) ⟨p, ds, rfl, rfl, us, h1, h3⟩
    · exact hp.elim
end
end FL
namespace FL
open PySem PySem.Spec L2
section
variable {X : Cx} {W : WX} {T : List Nat} {K : PySem.W.Frag} {x : Str} {st : Stmt} {ps : List Str} {k : Nat} {F : List Ent → R D} {e : Expr} {es : List Expr} {p pos : Pos}
/-! ### arguments, one of them a list that the callee changes -/
def aVal (a : M D) (r : M (List Arg)) : M (List Arg) := mB a fun d => mB r fun as => mP (.val d :: as)
def hasS (j : Nat) : M Unit := fun r => match r[j]? with
  | some (.cel _ _) => .ok () r
  | _ => .bad
def aLate (j : Nat) (r : M (List Arg)) : M (List Arg) := mB (hasS j) fun _ => mB r fun as => mP (.late j :: as)
theorem ArgsR.shift {x y : Cf} {vs : List V} {as : List Arg} (f : Same x.F y.F) (hs : y.s = x.s) (h : ArgsR K x vs as) : ArgsR K y vs as := by
  induction h with
  | nil => exact .nil
  | cons h _ ih => exact .cons (h.shift f hs) ih
theorem sa_nil : SA X W T [] (mP []) := ⟨_, pa_nil, fun x Q s p => p x rfl (Fr.refl T x) s rfl [] .nil⟩
theorem sa_val {fa : M D} {fr : M (List Arg)} (ha : SE X W T e fa) (hr : SA X W T es fr) (hs : starEach (e :: es) X.env = (false, eval e X.env) :: starEach es X.env := by rfl) : SA X W T (e :: es) (aVal fa fr) := by
  obtain ⟨ta, pa, ea⟩ := ha.ex
  obtain ⟨tr, pr, er⟩ := hr.ex
  refine ⟨_, pa_cons pa pr hs, fun x Q s p => ?_⟩
  refine ea.bind s p fun d y f1 s1 e1 v hv p1 => ?_
  show tr x.s y.H _
  rw [← e1]
  exact er.bind s1 p1 fun as z f2 s2 e2 vs hvs p2 => p2 z rfl (Fr.refl T z) s2 (e2.trans e1) (v :: vs) (.cons (.val (hv.mono f2.ff)) hvs)
theorem sa_late (j : Nat) {n : Str} {p1 : Pos} {fr : M (List Arg)} (hr : SA X W T es fr) (hN : X.N[j]? = some n := by rfl) (hv : Vis X.env.scope n := by first | exact Or.inl rfl | exact Or.inr (Or.inl rfl) | exact Or.inr (Or.inr rfl)) (hd : (n == ("__debug__" : Str)) = false := by decide)
    (hc : (n == ("__classdict__" : Str)) = false := by decide) (hs : starEach (.Name n p1 :: es) X.env = (false, eval (.Name n p1) X.env) :: starEach es X.env := by rfl) : SA X W T (.Name n p1 :: es) (aLate j fr) := by
  obtain ⟨tr, pr, er⟩ := hr.ex
  refine ⟨_, pa_cons (pe_var (i := j) hN hv hd hc) pr hs, fun x Q s p => ?_⟩
  obtain ⟨⟨k, ds, q, us, e0, h0, h1⟩, p1⟩ := hasC_run s p
  refine ⟨_, h0, ?_⟩
  exact er.bind s p1 fun as z f2 s2 e2 vs hvs p2 => p2 z rfl (Fr.refl T z) s2 e2 (.ref q :: vs) (.cons (.late (by rw [e2]; exact h0)) hvs)
def allV : List Arg → Option (List D)
  | [] => some []
  | .val d :: r => (allV r).map (d :: ·)
  | .late _ :: _ => none
def splitA : List Arg → Option (List D × Nat × List D)
  | [] => none
  | .val d :: r => (splitA r).map fun t => (d :: t.1, t.2.1, t.2.2)
  | .late j :: r => (allV r).map fun ds => ([], j, ds)
theorem allV_rep {y : Cf} : ∀ {vs : List V} {as : List Arg} {ds : List D}, ArgsR K y vs as → allV as = some ds → RepL K y.F vs ds
  | _, _, _, .nil, h => by cases h; exact .nil
  | _, _, _, .cons (a := .val d) (as := as) (.val h) r, q => by
    simp only [allV] at q
    cases g : allV as with
    | none => rw [g] at q; cases q
    | some es => rw [g] at q; cases q; exact .cons h (allV_rep r g)
theorem splitA_rep {y : Cf} : ∀ {vs : List V} {as : List Arg} {pre post : List D} {j : Nat}, ArgsR K y vs as → splitA as = some (pre, j, post) → ∃ vs1 v vs2, vs = vs1 ++ v :: vs2 ∧ RepL K y.F vs1 pre ∧ RepL K y.F vs2 post ∧ y.s[j]? = some (some v)
  | _, _, _, _, _, .nil, h => by cases h
  | _, _, _, _, _, .cons (v := v) (a := .val d) (as := as) (.val h) r, q => by
    simp only [splitA] at q
    cases g : splitA as with
    | none => rw [g] at q; cases q
    | some t =>
      rw [g] at q
      obtain ⟨t1, t2, t3⟩ := t
      cases q
      obtain ⟨vs1, w, vs2, e, h1, h2, h3⟩ := splitA_rep r g
      exact ⟨v :: vs1, w, vs2, by rw [e]; rfl, .cons h h1, h2, h3⟩
  | _, _, _, _, _, .cons (v := v) (vs := vs) (a := .late j) (as := as) (.late h) r, q => by
    simp only [splitA] at q
    cases g : allV as with
    | none => rw [g] at q; cases q
    | some es =>
      rw [g] at q
      cases q
      exact ⟨[], v, vs, rfl, .nil, allV_rep r g, h⟩
/-- the callee's slots -/
def ioArgs (pre : List D) (ds : List D) (post : List D) : List Ent := valsOf pre ++ .cel .io ds :: valsOf post
theorem ioArgs_get {pre ds post : List D} {a : Nat} {en : Ent} (h : (ioArgs pre ds post)[a]? = some en) :
    (∃ d, pre[a]? = some d ∧ en = .val d ∧ a < pre.length) ∨ (a = pre.length ∧ en = .cel .io ds) ∨ ∃ b d, a = pre.length + 1 + b ∧ post[b]? = some d ∧ en = .val d := by
  unfold ioArgs at h
  have hl : (valsOf pre).length = pre.length := List.length_map ..
  by_cases c : a < pre.length
  · rw [List.getElem?_append_left (by omega)] at h
    obtain ⟨d, h1, h2⟩ := valsOf_get h
    exact .inl ⟨d, h1, h2, c⟩
  · rw [List.getElem?_append_right (by omega), hl] at h
    cases q : a - pre.length with
    | zero =>
      rw [q] at h
      exact .inr (.inl ⟨by omega, (Option.some.inj h).symm⟩)
    | succ b =>
      rw [q] at h
      obtain ⟨d, h1, h2⟩ := valsOf_get (show (valsOf post)[b]? = some en from h)
      exact .inr (.inr ⟨b, d, by omega, h1, h2⟩)
def callW (np i : Nat) (T : List Nat) (F : List Ent → R D) (m : M (List Arg)) (β : Type) (k : D → Option β) : M β := mB m fun as r => match splitA as with
  | some (pre, j, post) => if decide (as.length = np ∧ pre.length = i ∧ j ∈ T) then (match r[j]? with
    | some (.cel kk ds) => match F (ioArgs pre ds post) with
      | .ok d [.cel .io es] => match k d with
        | some b => .ok b (r.set j (.cel kk es))
        | none => .bad
      | .exc c pl [.cel .io es] => .exc c pl (r.set j (.cel kk es))
      | _ => .bad
    | _ => .bad) else .bad
  | none => .bad
def callI (np i : Nat) (T : List Nat) (F : List Ent → R D) (m : M (List Arg)) : M D := callW np i T F m D some
def unL : D → Option (List D)
  | .lst ds => some ds
  | _ => none
def callIL (np i : Nat) (T : List Nat) (F : List Ent → R D) (m : M (List Arg)) : M (List D) := callW np i T F m (List D) unL
/-- the caller's state behind the call -/
theorem io_back {y z : Cf} {j i : Nat} {kk : CK} {ds es pre post : List D} {vs : List V} {q : Addr} {us : List V} (s : RSt K y) (hj : j ∈ T) (h : y.r[j]? = some (.cel kk ds)) (hs : y.s[j]? = some (some (.ref q))) (hp : y.H q = some (.lst us)) (fq : y.F q = none)
    (hi : pre.length = i) (hvi : vs[i]? = some (.ref q)) (f : Fr [i] ⟨y.F, y.H, vs.map some, ioArgs pre ds post⟩ z) (sz : RSt K z) (zs : z.s = vs.map some) (zr : z.r = (ioArgs pre ds post).set i (.cel .io es)) :
    Fr T y ⟨z.F, z.H, y.s, y.r.set j (.cel kk es)⟩ ∧ RSt K ⟨z.F, z.H, y.s, y.r.set j (.cel kk es)⟩ ∧ ∀ a k p, CelAt ⟨z.F, z.H, y.s, y.r.set j (.cel kk es)⟩ a k p → CelAt y a k p := by
  have lio : i < (ioArgs pre ds post).length := by unfold ioArgs valsOf; simp; omega
  have celx : ∀ a k p, CelAt ⟨y.F, y.H, vs.map some, ioArgs pre ds post⟩ a k p → a = i ∧ k = .io ∧ p = q := by
    rintro a k p ⟨⟨gs, h1⟩, h2⟩
    rcases ioArgs_get h1 with ⟨d, _, e, _⟩ | ⟨e1, e2⟩ | ⟨b, d, _, _, e⟩
    · cases e
    · cases e2
      have h2' : (vs.map some)[a]? = some (some (V.ref p)) := h2
      rw [e1, hi, List.getElem?_map, hvi] at h2'
      cases h2'
      exact ⟨by omega, rfl, rfl⟩
    · cases e
  have cely : CelAt y j kk q := ⟨⟨ds, h⟩, hs⟩
  have keyc : ∀ a k p, CelAt ⟨z.F, z.H, y.s, y.r.set j (.cel kk es)⟩ a k p → CelAt y a k p := by
    rintro a k p ⟨⟨gs, h1⟩, h2⟩
    rcases get_set h1 with ⟨e1, e2, _⟩ | ⟨e1, g⟩
    · subst e1
      cases e2
      exact ⟨⟨ds, h⟩, h2⟩
    · exact ⟨⟨gs, g⟩, h2⟩
  refine ⟨?_, ?_, keyc⟩
  · refine ⟨List.length_set .., f.ff, f.dm, fun a o e => ?_, fun a o e n => ?_, fun a k p c => .inr (keyc a k p c), fun a ha => ⟨List.getElem?_set_ne (fun z => ha (by rw [← z]; exact hj)), rfl⟩⟩
    · rcases f.nw a o e with g | g | ⟨b, g⟩
      · exact .inl g
      · exact .inr (.inl g)
      · have := (celx b _ a g).2.1
        cases this
    · refine f.hp a o e fun b _ k c => ?_
      obtain ⟨_, _, e3⟩ := celx b k a c
      exact n j hj kk (by rw [e3]; exact cely)
  · refine ⟨sz.sub, by show y.s.length = (y.r.set j _).length; rw [List.length_set]; exact s.len, fun a d e => ?_, fun a k gs e => ?_, fun a b k l p c c' => s.dis a b k l p (keyc _ _ _ c) (keyc _ _ _ c')⟩
    · rcases get_set e with ⟨_, e2, _⟩ | ⟨_, g⟩
      · cases e2
      · obtain ⟨v, h1, h2⟩ := s.val a d g
        exact ⟨v, h1, h2.mono f.ff⟩
    · rcases get_set e with ⟨e1, e2, _⟩ | ⟨e1, g⟩
      · subst e1
        cases e2
        obtain ⟨p, h1, h2⟩ := sz.cel i .io es (by rw [zr]; exact List.getElem?_set_self lio)
        rw [zs, List.getElem?_map, hvi] at h1
        cases h1
        exact ⟨q, hs, h2⟩
      · obtain ⟨p, h1, ws, h2, h3, h4⟩ := s.cel a k gs g
        have ne : p ≠ q := fun z => e1 (s.dis j a kk k q cely ⟨⟨gs, g⟩, by rw [← z]; exact h1⟩)
        refine ⟨p, h1, ws, h2.mono f.ff, f.hp p _ h3 (fun b _ k' c => ne (celx b k' p c).2.2), ?_⟩
        show z.F p = none
        cases w : z.F p with
        | none => rfl
        | some o =>
          rcases f.nw p o w with ⟨u, g2⟩ | g2 | ⟨b, g2⟩
          · have g3 : y.F p = some u := g2
            rw [h4] at g3; cases g3
          · have g3 : y.H p = none := g2
            rw [h3] at g3; cases g3
          · exact (ne (celx b _ p g2).2.2).elim
theorem ev_callW {np i : Nat} {fr : Bool} {ta : TA} {fa : M (List Arg)} {β : Type} {k : D → Option β} {Qf : β → Cf → Prop} {x : Cf} {Q : VK} (ea : EvA X W T ta fa) (s : RSt X.K x) (p : Post X.K X.mg T W x (callW np i T F fa β k x.r) Qf)
    (fin : ∀ y z d b, Fr T x y → RSt X.K y → y.s = x.s → z.s = y.s → k d = some b → RSt X.K z → Fr T y z → (∀ i k p, CelAt z i k p → CelAt y i k p) → Qf b z → ∀ v, (∃ x' z' : Cf, x'.H = y.H ∧ z'.H = z.H ∧ z'.F = z.F ∧ RetR X.K fr x' z' v d) → Q v z.H) :
    tCallSD (SpF X.K X.mg (some i) fr np F) [] (WE W) ta x.s x.H Q := by
  refine ea.bind s p fun as y f1 s1 e1 vs hv p1 => ?_
  rw [List.append_nil]
  cases q0 : splitA as with
  | none => simp only [q0] at p1; exact p1.elim
  | some t =>
    obtain ⟨pre, j, post⟩ := t
    simp only [q0] at p1
    by_cases c : decide (as.length = np ∧ pre.length = i ∧ j ∈ T) = true
    case neg => rw [if_neg c] at p1; exact p1.elim
    rw [if_pos c] at p1
    obtain ⟨c1, c2, c3⟩ := of_decide_eq_true c
    obtain ⟨vs1, v0, vs2, rfl, r1, r2, hj⟩ := splitA_rep hv q0
    cases q1 : y.r[j]? with
    | none => simp only [q1] at p1; exact p1.elim
    | some en =>
      simp only [q1] at p1
      cases en with
      | no => exact p1.elim
      | val d => exact p1.elim
      | cel kk ds =>
        simp only at p1
        obtain ⟨q, h1, us, h2, h3, h4⟩ := s1.cel j kk ds q1
        rw [hj] at h1
        cases h1
        have lv : (vs1 ++ V.ref q :: vs2).length = np := by
          have : ∀ {vs : List V} {as : List Arg}, ArgsR X.K y vs as → vs.length = as.length := fun h => by
            induction h with
            | nil => rfl
            | cons _ _ ih => exact congrArg (· + 1) ih
          rw [this hv]; exact c1
        have hvi : (vs1 ++ V.ref q :: vs2)[i]? = some (.ref q) := by
          rw [← c2, ← r1.length, List.getElem?_append_right (Nat.le_refl _), Nat.sub_self]; rfl
        have celx : ∀ a k p, CelAt ⟨y.F, y.H, (vs1 ++ V.ref q :: vs2).map some, ioArgs pre ds post⟩ a k p → some i = some a ∧ k = .io := by
          rintro a k p ⟨⟨gs, g1⟩, g2⟩
          rcases ioArgs_get g1 with ⟨d, _, e, _⟩ | ⟨e1, e2⟩ | ⟨b, d, _, _, e⟩
          · cases e
          · cases e2
            exact ⟨by rw [e1, c2], rfl⟩
          · cases e
        have sx : RSt X.K ⟨y.F, y.H, (vs1 ++ V.ref q :: vs2).map some, ioArgs pre ds post⟩ := by
          refine ⟨s1.sub, ?_, fun a d h => ?_, fun a k gs h => ?_, fun a b k l p cc cc' => ?_⟩
          · show ((vs1 ++ V.ref q :: vs2).map some).length = (ioArgs pre ds post).length
            unfold ioArgs valsOf
            simp [r1.length, r2.length]
          · rcases ioArgs_get h with ⟨d', g1, e, g2⟩ | ⟨_, e2⟩ | ⟨b, d', g0, g1, e⟩
            · cases e
              obtain ⟨v, g3, g4⟩ := r1.get g1
              refine ⟨v, ?_, g4⟩
              show ((vs1 ++ V.ref q :: vs2).map some)[a]? = _
              rw [List.getElem?_map, List.getElem?_append_left (by rw [r1.length]; exact g2), g3]; rfl
            · cases e2
            · cases e
              obtain ⟨v, g3, g4⟩ := r2.get g1
              refine ⟨v, ?_, g4⟩
              show ((vs1 ++ V.ref q :: vs2).map some)[a]? = _
              rw [List.getElem?_map, g0, List.getElem?_append_right (by rw [r1.length]; omega), r1.length, show pre.length + 1 + b - pre.length = b + 1 by omega]
              show ((vs2[b]?).map some) = _
              rw [g3]; rfl
          · rcases ioArgs_get h with ⟨d', _, e, _⟩ | ⟨e1, e2⟩ | ⟨b, d', _, _, e⟩
            · cases e
            · cases e2
              refine ⟨q, ?_, us, h2, h3, h4⟩
              show ((vs1 ++ V.ref q :: vs2).map some)[a]? = _
              rw [List.getElem?_map, e1, c2, hvi]; rfl
            · cases e
          · have e1 := (celx a k p cc).1
            have e2 := (celx b l p cc').1
            have e3 := e1.symm.trans e2
            exact Option.some.inj e3
        refine ⟨lv, ⟨y.F, y.H, (vs1 ++ V.ref q :: vs2).map some, ioArgs pre ds post⟩, rfl, rfl, sx, celx, ?_⟩
        show PostF X.K X.mg (some i) fr _ (F (ioArgs pre ds post)) Q _
        cases q2 : F (ioArgs pre ds post) with
        | bad => simp only [q2] at p1; exact p1.elim
        | exc cn pl o =>
          match o, q2 with
          | [.cel .io es], q2 =>
            simp only [q2] at p1
            intro z cls dx zs zr fz sz w
            obtain ⟨a1, a2, a3⟩ := io_back s1 c3 q1 hj h3 h4 c2 hvi fz sz zs zr
            have := p1 ⟨z.F, z.H, y.s, y.r.set j (.cel kk es)⟩ cls dx rfl a1 a2 w
            rw [show (⟨z.F, z.H, y.s, y.r.set j (.cel kk es)⟩ : Cf).s = x.s from e1] at this
            exact this
          | [], q2 => simp only [q2] at p1; exact p1.elim
          | [.no], q2 => simp only [q2] at p1; exact p1.elim
          | [.val _], q2 => simp only [q2] at p1; exact p1.elim
          | [.cel .own _], q2 => simp only [q2] at p1; exact p1.elim
          | _ :: _ :: _, q2 => simp only [q2] at p1; exact p1.elim
        | ok d o =>
          match o, q2 with
          | [.cel .io es], q2 =>
            simp only [q2] at p1
            cases q3 : k d with
            | none => simp only [q3] at p1; exact p1.elim
            | some b =>
              simp only [q3] at p1
              intro z zs zr fz sz v hv2
              obtain ⟨a1, a2, a3⟩ := io_back s1 c3 q1 hj h3 h4 c2 hvi fz sz zs zr
              exact fin y ⟨z.F, z.H, y.s, y.r.set j (.cel kk es)⟩ d b f1 s1 e1 rfl q3 a2 a1 a3 (p1 _ rfl a1 a2) v ⟨_, z, rfl, rfl, rfl, hv2⟩
          | [], q2 => simp only [q2] at p1; exact p1.elim
          | [.no], q2 => simp only [q2] at p1; exact p1.elim
          | [.val _], q2 => simp only [q2] at p1; exact p1.elim
          | [.cel .own _], q2 => simp only [q2] at p1; exact p1.elim
          | _ :: _ :: _, q2 => simp only [q2] at p1; exact p1.elim
theorem ev_callI {np i : Nat} {ta : TA} {fa : M (List Arg)} (ea : EvA X W T ta fa) : EvE X W T (tCallSD (SpF X.K X.mg (some i) false np F) [] (WE W) ta) (callI np i T F fa) := by
  intro x Q s p
  refine ev_callW ea s p fun y z d b f1 s1 e1 e2 hk sz fz hcc q v hr => ?_
  cases hk
  obtain ⟨x', z', g1, g2, g3, h⟩ := hr
  have h' : Rep X.K z'.F v d := h
  rw [g3] at h'
  exact q (e2.trans e1) v h'
theorem ev_callIL {np i : Nat} {ta : TA} {fa : M (List Arg)} (ea : EvA X W T ta fa) : EvL X W T (tCallSD (SpF X.K X.mg (some i) true np F) [] (WE W) ta) (callIL np i T F fa) := by
  intro x Q s p
  refine ev_callW ea s p fun y z d b f1 s1 e1 e2 hk sz fz hcc q v hr => ?_
  obtain ⟨x', z', g1, g2, g3, p', es, rfl, rfl, us, ⟨h1, h2, h3⟩, h4⟩ := hr
  cases hk
  rw [g1] at h4
  exact q (e2.trans e1) p' us ⟨by rw [← g2]; exact h1, by rw [← g3]; exact h2, by rw [← g3]; exact h3⟩ (f1.dm p' h4) fun i k c => not_cel s1 h4 i k (hcc i k p' c)
variable {f0 : Addr}
theorem se_callI {np : Nat} {i : Nat} (G : DefOk X.prog X.w X.K X.mg X.base x st ps k (some i) false F) (hr : Room k X.A) (tk : Takes X W) {fa : M (List Arg)} (ha : SA X W T (e :: es) fa) (hg : Gl X x := by rfl) (hdb : (x == ("__debug__" : Str)) = false := by decide)
    (he : starEach (e :: es) X.env = (false, eval e X.env) :: starEach es X.env := by rfl) (hpl : (backTo pos (starEach es X.env)).any (·.1) = false := by rfl) (hn : ps.length = np := by rfl) : SE X W T (.Call (.Name x p) (e :: es) [] pos) (callI np i T F fa) := by
  subst hn
  obtain ⟨f, fd, hm, hk, _, FO, hb⟩ := G.ex
  obtain ⟨ta, pa, ea⟩ := ha.ex
  exact ⟨_, pe_callSD FO hr hg hm hk hb .nil (fun σ => passAt tk σ) pa hdb he hpl, ev_callI ea⟩
theorem el_callI {np : Nat} {i : Nat} (G : DefOk X.prog X.w X.K X.mg X.base x st ps k (some i) true F) (hr : Room k X.A) (tk : Takes X W) {fa : M (List Arg)} (ha : SA X W T (e :: es) fa) (hg : Gl X x := by rfl) (hdb : (x == ("__debug__" : Str)) = false := by decide)
    (he : starEach (e :: es) X.env = (false, eval e X.env) :: starEach es X.env := by rfl) (hpl : (backTo pos (starEach es X.env)).any (·.1) = false := by rfl) (hn : ps.length = np := by rfl) : SL X W T (.Call (.Name x p) (e :: es) [] pos) (callIL np i T F fa) := by
  subst hn
  obtain ⟨f, fd, hm, hk, _, FO, hb⟩ := G.ex
  obtain ⟨ta, pa, ea⟩ := ha.ex
  exact ⟨_, pe_callSD FO hr hg hm hk hb .nil (fun σ => passAt tk σ) pa hdb he hpl, ev_callIL ea⟩
/-! ### a call by names alone -/
def EvK (X : Cx) (W : WX) (T : List Nat) (ta : TA) (f : M (List D)) : Prop := EvD X W T ta f
structure SK (X : Cx) (W : WX) (T : List Nat) (kws : List Keyword) (f : M (List D)) : Prop where
  ex : ∃ ta, PK X kws ta ∧ EvD X W T ta f
theorem sk_nil : SK X W T [] (mP []) := ⟨_, pk_nil, fun x Q s p => p x rfl (Fr.refl T x) s rfl [] .nil⟩
theorem sk_cons {nm : Option Str} {kpos : Pos} {kws : List Keyword} {fa : M D} {fr : M (List D)} (ha : SE X W T e fa) (hr : SK X W T kws fr) : SK X W T (⟨nm, e, kpos⟩ :: kws) (dCons fa fr) := by
  obtain ⟨ta, pa, ea⟩ := ha.ex
  obtain ⟨tr, pr, er⟩ := hr.ex
  refine ⟨_, pk_cons pa pr, fun x Q s p => ?_⟩
  refine ea.bind s p fun d y f1 s1 e1 v hv p1 => ?_
  show tr x.s y.H _
  rw [← e1]
  exact er.bind s1 p1 fun ds z f2 s2 e2 vs hvs p2 => p2 z rfl (Fr.refl T z) s2 (e2.trans e1) (v :: vs) (.cons (hv.mono f2.ff) hvs)
/-- the values in the parameters' order: ix tells for each parameter which keyword is its -/
def ordL {α : Type} (ix : List Nat) (l : List α) : List α := ix.filterMap fun i => l[i]?
def tCallKw (sp : Sp) (m : Nat) (ix : List Nat) (E : L2.St → XK) (tk : TA) : TE := fun σ H Q => tk σ H fun zs H2 => zs.length = m ∧ sp (ordL ix zs) H2 Q (E σ)
theorem ordL_vals {ix : List Nat} {vs : List V} {us : List Value} (r : Vals vs us) : Vals (ordL ix vs) (ordL ix us) := by
  unfold ordL
  induction ix with
  | nil => exact .nil
  | cons i ix ih =>
    rw [List.filterMap_cons, List.filterMap_cons]
    cases q : vs[i]? with
    | none => rw [r.none_of q]; exact ih
    | some v =>
      obtain ⟨u, h1, h2⟩ := r.get q
      rw [h1]
      exact .cons h2 ih
theorem ordL_rep {F : Hp} {ix : List Nat} {vs : List V} {ds : List D} (r : RepL K F vs ds) : RepL K F (ordL ix vs) (ordL ix ds) := by
  unfold ordL
  induction ix with
  | nil => exact .nil
  | cons i ix ih =>
    rw [List.filterMap_cons, List.filterMap_cons]
    cases q : ds[i]? with
    | none =>
      have : vs[i]? = none := by
        rw [List.getElem?_eq_none_iff] at q ⊢
        rw [r.length]; exact q
      rw [this]; exact ih
    | some d =>
      obtain ⟨v, h1, h2⟩ := r.get q
      rw [h1]
      exact .cons h2 ih
structure KwB (fd : FuncData) (ps ks : List Str) (ix : List Nat) : Prop where
  to : ∀ (s : Shared) (ws : List Value), ws.length = ks.length → BindsTo s fd ⟨[], ks.zip ws⟩ (ps.zip (ordL ix ws))
theorem pe_callKw {CX : CXT} {f : Addr} {fd : FuncData} {sp : Sp} {kws : List Keyword} {ks : List Str} {ix : List Nat} {tk : TA} {E : L2.St → XK} (FO : FnOk X.prog X.w X.K X.mg X.base CX k f fd ps sp) (hr : Room k X.A) (hg : Gl X x) (hm : X.mg x = some (.ref f)) (hk : PySem.W.keepIn X.K (.ref f) = true)
    (hb : KwB fd ps ks ix) (hx : ∀ σ, PassesAt CX X σ (E σ)) (hkw : PK X kws tk) (hall : (backToKw pos (keywordEach kws X.env)).all (·.1.isSome) = true) (hks : (backToKw pos (keywordEach kws X.env)).filterMap (·.1) = ks)
    (hdb : (x == ("__debug__" : Str)) = false) (hpl : ((backTo pos (starEach [] X.env)).any (·.1) || (backToKw pos (keywordEach kws X.env)).any (·.1.isNone)) = false) : PE X (.Call (.Name x p) [] kws pos) (tCallKw sp ks.length ix E tk) := by
  constructor
  intro pins s σ H Q I h
  refine wpAny_Call_Name_kw (ld_glob I hg hm ?_ hdb)
  refine PySem.W.callWith_KW0 (h₀ := X.base) I.ok.mod.kin hk hall ?_ hpl
  refine thn (hkw.run pos pins s σ H _ I h) fun ws s2 q => ?_
  obtain ⟨zs, H2, I2, rz, l1, q2⟩ := q
  refine ⟨I2.kIn, ?_⟩
  rw [hks]
  refine wpAny_call (codeAny_mono (FO.run X.A X.stack s2 H2 ⟨[] ++ [], ks.zip ws⟩ (ordL ix ws) (ordL ix zs) Q (E σ) hr I2.env0 (hb.to s2 ws (rz.length.symm.trans l1)) (ordL_vals rz) q2) fun r s' hq => ?_)
  cases r with
  | error e => exact hx σ pins H2 s2 e s' I2 hq
  | ok fl =>
    cases fl with
    | ret u => exact I2.after hq
    | next => exact hq.elim
    | brk => exact hq.elim
    | cont => exact hq.elim
/-- how a def of the text binds its names -/
def BindKw (x : Str) (st : Stmt) (ps ks : List Str) (ix : List Nat) : Prop := ∀ (kV doc pm : Value) (an : Option Addr) (cdv ct : Value) (ws : List Value), ws.length = ks.length →
  bindArgs (PySem.W.fnOf x x (defArgs st) (defBody st) (defScope st) .none kV doc pm an cdv ct) ⟨[], ks.zip ws⟩ = pure (ps.zip (ordL ix ws))
def callKw (np m : Nat) (ix : List Nat) (F : List Ent → R D) (a : M (List D)) : M D := mB a fun ds r => if decide (ds.length = m ∧ (ordL ix ds).length = np) then (match F (valsOf (ordL ix ds)) with
  | .ok d _ => .ok d r
  | .exc c pl _ => .exc c pl r
  | .bad => .bad) else .bad
theorem se_callKw {np nk : Nat} {kws : List Keyword} {ks : List Str} (ix : List Nat) (G : DefOk X.prog X.w X.K X.mg X.base x st ps k none false F) (hr : Room k X.A) (tk : Takes X W) {fa : M (List D)} (ha : SK X W T kws fa) (hb : BindKw x st ps ks ix) (hg : Gl X x := by rfl)
    (hall : (backToKw pos (keywordEach kws X.env)).all (·.1.isSome) = true := by rfl) (hks : (backToKw pos (keywordEach kws X.env)).filterMap (·.1) = ks := by rfl) (hdb : (x == ("__debug__" : Str)) = false := by decide)
    (hpl : ((backTo pos (starEach [] X.env)).any (·.1) || (backToKw pos (keywordEach kws X.env)).any (·.1.isNone)) = false := by rfl) (hn : ps.length = np := by rfl) (hm : ks.length = nk := by rfl) : SE X W T (.Call (.Name x p) [] kws pos) (callKw np nk ix F fa) := by
  subst hn hm
  obtain ⟨f, fd, hm, hk, Fn, FO, _⟩ := G.ex
  obtain ⟨ta, pa, ea⟩ := ha.ex
  have kb : KwB fd ps ks ix := by
    obtain ⟨oc, od, kV, doc, pm, an, cdv, ct, osl, rfl, lk, hcd⟩ := Fn.ex
    exact ⟨fun s ws hl => .of_eq (hb kV doc pm an cdv ct ws hl)⟩
  refine ⟨_, pe_callKw FO hr hg hm hk kb (fun σ => passAt tk σ) pa hall hks hdb hpl, fun x Q s p => ?_⟩
  refine ea.bind s p fun ds y f1 s1 e1 vs hv p1 => ?_
  by_cases c : decide (ds.length = ks.length ∧ (ordL ix ds).length = ps.length) = true
  · rw [if_pos c] at p1
    obtain ⟨c1, c2⟩ := of_decide_eq_true c
    refine ⟨by rw [hv.length]; exact c1, call_run s1 (ordL_rep hv) c2 (fun d o q z ex v hv' => ?_) (fun c pl o q z cls dx ex w => ?_) (fun q => ?_)⟩
    · rw [q] at p1; exact Post.here p1 ex s1 (ex.s.trans e1) v hv'
    · rw [q] at p1
      have := p1 z cls dx ex.r (ex.fr T) (ex.rst s1) w
      rw [ex.s, e1] at this
      exact this
    · rw [q] at p1; exact p1
  · rw [if_neg c] at p1
    exact p1.elim
end
end FL
namespace FL
open PySem PySem.Spec L2 HT
open PyProof.Rows (IsTup)
/-! ### read from behind -/
section
variable {prog : Program} {w : World} {A : Around} {E : Value → Shared → Prop} {s : Shared}
theorem behind_sl {sl : Addr} {vl vu vs : Value} {n : Nat} {Q : Int × Int × Nat → Shared → Prop} (hs : s.heap.IsSliceOf sl vl vu vs) (pl : IsPart vl none) (pu : IsPart vu none) (ps : IsPart vs (some (-1))) (h : Q ((n : Int) - 1, -1, n) s) :
    wpAny (model prog w) A (Builtin.Slice.sliceApplied (.ref sl) (pure (n : Int))) Q E s := by
  obtain ⟨os, hos, hcs, hds⟩ := id hs
  unfold Builtin.Slice.sliceApplied Builtin.Slice.sliceFields
  refine wpAny_bind (wpAny_bind (wpAny_field hos hds (x := vl) rfl (wpAny_bind (wpAny_field hos hds (x := vu) rfl (wpAny_bind (wpAny_field hos hds (x := vs) rfl (wpAny_pure ?_)))))))
  refine wpAny_bind (slicePart_ ps ?_)
  show wpAny _ _ (if ((-1 : Int) == 0) = true then _ else _) _ _ s
  rw [if_neg (by decide)]
  refine wpAny_bind (slicePart_ pl (wpAny_bind (slicePart_ pu (wpAny_bind (wpAny_pure ?_)))))
  have e : Builtin.Slice.slicePlaces ((n : Int) - 1) (-1) (-1) = n := by
    unfold Builtin.Slice.slicePlaces
    rw [if_neg (by decide)]
    by_cases c : (n : Int) - 1 > -1
    · rw [if_pos c, show (- -1 : Int) = 1 from rfl, Int.ediv_one]; omega
    · rw [if_neg c]; omega
  show wpAny _ _ (pure ((n : Int) - 1, (-1 : Int), Builtin.Slice.slicePlaces ((n : Int) - 1) (-1) (-1))) _ _ s
  rw [e]
  exact wpAny_pure h
theorem behind_pick (items : Array Value) : ((List.range items.size).filterMap fun (m : Nat) => items[(((items.size : Int) - 1) + (m : Int) * (-1)).toNat]?).toArray = items.toList.reverse.toArray := by
  have e : ((List.range items.size).filterMap fun (m : Nat) => items[(((items.size : Int) - 1) + (m : Int) * (-1)).toNat]?) = ((List.range items.size).map fun m => items.size - 1 - m).filterMap (items[·]?) := by
    rw [List.filterMap_map]
    congr 1
    funext m
    show items[_]? = items[items.size - 1 - m]?
    by_cases c : m < items.size
    · rw [show (((items.size : Int) - 1) + (m : Int) * (-1)).toNat = items.size - 1 - m by omega]
    · rw [show (((items.size : Int) - 1) + (m : Int) * (-1)).toNat = 0 by omega, show items.size - 1 - m = 0 by omega]
  rw [e, PySem.W.krv_range, List.filterMap_reverse, PySem.W.krv_all]
theorem behind_tup {t sl : Addr} {items : Array Value} {vl vu vs : Value} {Q : Value → Shared → Prop} (ht : IsTup s.heap t items) (hs : s.heap.IsSliceOf sl vl vu vs) (pl : IsPart vl none) (pu : IsPart vu none) (ps : IsPart vs (some (-1))) (hz : items.size ≤ sizeLine)
    (h : Q (.ref s.heap.objs.size) { s with heap := s.heap.push { cls := .type "tuple", data := .seq items.toList.reverse.toArray } }) : wpAny (model prog w) A (getItem (.ref t) (.ref sl)) Q E s := by
  obtain ⟨os, hos, hcs, hds⟩ := id hs
  have hTs : s.TypeIs (.ref sl) "slice" := ⟨os, hos, hcs⟩
  have hsz : sizeOk (.seq items.toList.reverse.toArray) := by
    show items.toList.reverse.toArray.size ≤ sizeLine
    simpa using hz
  unfold getItem
  try with_reducible refine wpAny_holding ?_
  first | refine wpAny_bind (wpAny_pure ?_) | skip
  refine wpAny_bind (wpAny_sequenceKey ht.typeIs (by decide) ?_)
  refine wpAny_bind (wpAny_callSpecial?_slot (name := Str.ofString "__getitem__") ht.typeIs PyProof.Rows.slot_tuple_getitem (wpAny_call_entry PyProof.Rows.slot_tuple_getitem ht.typeIs PyProof.Rows.entry_tuple_getitem ?_ (PyProof.Rows.args_tuple_getitem _ _)))
  show wpAny _ _ (Builtin.Tuple.tupleItemsOf (.ref t) >>= _) _ _ s
  refine wpAny_bind (PyProof.Rows.tupleItemsOf_ ht ?_)
  refine wpAny_bind (wpAny_typeOf hTs ?_)
  rw [if_pos (by decide)]
  refine wpAny_bind (behind_sl hs pl pu ps ?_)
  have hno : ¬ ((((items.size : Int) - 1 == 0) && ((-1 : Int) == 1) && (items.size == items.size)) = true) := by
    intro q
    rw [Bool.and_eq_true, Bool.and_eq_true] at q
    exact absurd q.1.2 (by decide)
  show wpAny _ _ (if (((items.size : Int) - 1 == 0) && ((-1 : Int) == 1) && (items.size == items.size)) = true then _ else _) _ _ s
  rw [if_neg hno, behind_pick]
  first
    | exact wpAny_bind (m := Builtin.Tuple.tupleExact _) (wpAny_newObj_type (wpAny_pure ⟨_, rfl, wpAny_pure h⟩) hsz)
    | exact wpAny_bind (wpAny_bind (m := Builtin.Tuple.tupleExact _) (wpAny_newObj_type (wpAny_pure ⟨_, rfl, wpAny_pure h⟩) hsz))
    | exact wpAny_bind (m := Builtin.Tuple.tupleExact _) (wpAny_newObj_type (wpAny_bind (wpAny_pure (wpAny_pure ⟨_, rfl, wpAny_pure h⟩))) hsz)
    | exact wpAny_bind (wpAny_bind (m := Builtin.Tuple.tupleExact _) (wpAny_newObj_type (wpAny_pure (wpAny_pure ⟨_, rfl, wpAny_pure h⟩)) hsz))
end
theorem push_keeps (h : Heap) (o : Obj) : ∀ b ob, h.get? b = some ob → (h.push o).get? b = some ob := fun b ob q => Heap.get?_push_of_some _ q
section
variable {X : Cx} {W : WX} {T : List Nat} {K : PySem.W.Frag}
def tRevA (K : PySem.W.Frag) (te : TE) : TE := fun σ H Q => te σ H fun x H1 => ∃ a xs, x = .ref a ∧ ((SqL K H1 a xs ∧ ∀ p, H1 p = none → Q (.ref p) (upd H1 p (.lst xs.reverse))) ∨ (SqT K H1 a xs ∧ ∀ p, H1 p = none → Q (.ref p) (upd H1 p (.tup xs.reverse))))
theorem pe_revSeq {e : Expr} {te : TE} {k : Nat} {p1 p2 p3 pos : Pos} (he : PE X e te) : PE X (.Subscript e (.Slice none none (some (.UnaryOp .USub (.Constant (.int 1) k p1) p2)) p3) pos) (tRevA X.K te) := by
  constructor
  intro pins s σ H Q I h
  refine PyProof.Rows.Subscript_ (thn (he.run pins s σ H _ I h) fun v s1 w => ?_)
  obtain ⟨x, H1, I1, r1, a, xs, ex, q⟩ := w
  subst ex
  cases r1
  have hst : PO X (some (.UnaryOp .USub (.Constant (.int 1) k p1) p2)) (tPart (tUn (rU fun i => .int (-i)) (tC (.int 1)))) := po_some (pe_un un_neg pe_int)
  refine wpAny_Slice (thn (po_none.run pins s1 σ H1 (fun o H2 => o = none ∧ H2 = H1) I1 ⟨rfl, rfl⟩) fun vl s2 w => ?_)
  obtain ⟨l, H2, I2, pl, el, e2⟩ := w
  subst el e2
  refine thn (po_none.run pins s2 σ H2 (fun o H3 => o = none ∧ H3 = H2) I2 ⟨rfl, rfl⟩) fun vu s3 w => ?_
  obtain ⟨u, H3, I3, pu, eu, e3⟩ := w
  subst eu e3
  refine thn (hst.run pins s3 σ H3 (fun o H4 => o = some (-1) ∧ H4 = H3) I3 ⟨1, rfl, -1, rfl, rfl, rfl⟩) fun vs s4 w => ?_
  obtain ⟨o, H4, I4, ps, eo, e4⟩ := w
  subst eo e4
  have I5 : Inv X pins σ H4 { s4 with heap := s4.heap.push { cls := .type "slice", data := .fields #[vl, vu, vs] } } := I4.kept (t' := s4.toks) fun b ob q => Heap.get?_push_of_some _ q
  show wpAny (model X.prog X.w) X.A (PyProof.Rows.subscriptTail e (.Slice none none (some (.UnaryOp .USub (.Constant (.int 1) k p1) p2)) p3) (.ref a) (.ref s4.heap.objs.size)) (EP X pins σ Q) X.xe { s4 with heap := s4.heap.push { cls := .type "slice", data := .fields #[vl, vu, vs] } }
  rcases q with ⟨hx, q⟩ | ⟨hx, q⟩
  · obtain ⟨its, r, ht, hz⟩ := I5.list hx
    have hlen := r.length
    refine PyProof.Rows.tail_any (ops := [.ref a, .ref s4.heap.objs.size]) ht.isList.typeIs (PySem.slot_list_getitem.lookup) ?_ (by with_unfolding_all rfl)
    refine wpAny_getItem_list_slice ht.isList (Heap.IsSliceOf.new _ vl vu vs) pl pu ps (by decide) ?_ (by rw [List.size_toArray]; omega)
    rw [PySem.W.krv_pick]
    refine ⟨.ref _, _, I5.laid (o := .lst xs.reverse) (t' := s4.toks) (push_keeps _ _) (Nat.le_refl _) ?_, rfl, q _ (I5.hok.fresh (Nat.le_refl _))⟩
    exact ⟨by rw [List.length_reverse]; exact hz, _, 0, r.reverse, Heap.get?_push_size _ rfl⟩
  · obtain ⟨its, r, ht, hz⟩ := I5.tuple hx
    have hlen := r.length
    refine PyProof.Rows.tail_any (ops := [.ref a, .ref s4.heap.objs.size]) ht.typeIs (PyProof.Rows.slot_tuple_getitem.lookup) ?_ (by with_unfolding_all rfl)
    refine behind_tup ht (Heap.IsSliceOf.new _ vl vu vs) pl pu ps (by rw [List.size_toArray]; omega) ?_
    refine ⟨.ref _, _, I5.laid (o := .tup xs.reverse) (t' := s4.toks) (push_keeps _ _) (Nat.le_refl _) ?_, rfl, q _ (I5.hok.fresh (Nat.le_refl _))⟩
    exact ⟨by rw [List.length_reverse]; exact hz, _, r.reverse, ⟨_, Heap.get?_push_size _ rfl, rfl, _, rfl⟩⟩
def revD : D → Option D
  | .tup ds => some (.tup ds.reverse)
  | .lst ds => some (.lst ds.reverse)
  | .scr ds => some (.lst ds.reverse)
  | _ => none
theorem se_rev {e : Expr} {f : M D} {k : Nat} {p1 p2 p3 pos : Pos} (he : SE X W T e f) : SE X W T (.Subscript e (.Slice none none (some (.UnaryOp .USub (.Constant (.int 1) k p1) p2)) p3) pos) (x1 revD f) := by
  obtain ⟨te, pe, ev⟩ := he.ex
  refine ⟨_, pe_revSeq pe, fun x Q s p => ?_⟩
  refine ev.bind s p fun d y f1 s1 e1 v hv p1 => ?_
  cases q : revD d with
  | none => rw [q] at p1; exact p1.elim
  | some z =>
    rw [q] at p1
    cases hv <;> try (simp [revD] at q; done)
    · rename_i h r
      cases q
      refine ⟨_, _, rfl, .inr ⟨sameT s1.sub h, fun l hl => ?_⟩⟩
      obtain ⟨a, b⟩ := ext_tup s1 hl r.rev
      exact Post.here p1 a s1 (a.s.trans e1) _ b
    · rename_i h r
      cases q
      refine ⟨_, _, rfl, .inl ⟨SqL.of (s1.sub _ _ h), fun l hl => ?_⟩⟩
      obtain ⟨a, b⟩ := ext_lst s1 hl r.rev
      exact Post.here p1 a s1 (a.s.trans e1) _ b
    · rename_i h r
      cases q
      refine ⟨_, _, rfl, .inl ⟨s1.sub.seq h, fun l hl => ?_⟩⟩
      obtain ⟨a, b⟩ := ext_lst s1 hl r.rev
      exact Post.here p1 a s1 (a.s.trans e1) _ b
/-! ### a call of a parameter that holds a def -/
/-- slot i holds the def that the module names x -/
def isDef (i : Nat) (x : Str) : M Unit := fun r => match r[i]? with
  | some (.val (.dfn y)) => if y = x then .ok () r else .bad
  | _ => .bad
def tCallLS (i : Nat) (f : Addr) (sp : Sp) (E : L2.St → XK) (t : TA) : TE := fun σ H Q => σ[i]? = some (some (.ref f)) ∧ t σ H fun vs H1 => sp vs H1 Q (E σ)
theorem pe_callLS {CX : CXT} {i k : Nat} {f : Addr} {fd : FuncData} {ps : List Str} {sp : Sp} {E : L2.St → XK} {x : Str} {p pos : Pos} {e : Expr} {es : List Expr} {t : TA} (F : FnOk X.prog X.w X.K X.mg X.base CX k f fd ps sp) (hr : Room k X.A) (hN : X.N[i]? = some x) (hv : Vis X.env.scope x) (hk : PySem.W.keepIn X.K (.ref f) = true)
    (hb : Binds X.K fd ps []) (hx : ∀ σ, PassesAt CX X σ (E σ)) (ha : PA X (e :: es) t) (hdb : (x == ("__debug__" : Str)) = false) (hcd : (x == ("__classdict__" : Str)) = false)
    (he : starEach (e :: es) X.env = (false, eval e X.env) :: starEach es X.env) (hpl : (backTo pos (starEach es X.env)).any (·.1) = false) : PE X (.Call (.Name x p) (e :: es) [] pos) (tCallLS i f sp E t) := by
  constructor
  intro pins s σ H Q I h
  obtain ⟨h0, h⟩ := h
  have run := (pe_var (X := X) (i := i) (pos := p) hN hv hdb hcd).run pins s σ H (fun v H' => v = .ref f ∧ H' = H) I ⟨_, h0, rfl, rfl⟩
  refine wpAny_Call_Name_kw (thn run fun u s1 w => ?_)
  obtain ⟨v, H1, I1, r, rfl, rfl⟩ := w
  cases r
  refine PySem.W.callWith_K (h₀ := X.base) I1.ok.mod.kin hk (thn (ha.run pos pins s1 σ H1 _ I1 h) fun us s2 w => ?_) he hpl
  obtain ⟨vs, H2, I2, r2, q⟩ := w
  refine ⟨I2.kIn, ?_⟩
  exact run_fnSD (E := E) F hr hb .nil (hx σ) I2 r2 (by rw [List.append_nil]; exact q)
/-- the address of the def that the module names x -/
def callP (i : Nat) (v : Str) (np : Nat) (F : List Ent → R D) (m : M (List D)) : M D := mB (isDef i v) fun _ => callD np F m
theorem se_callP {np : Nat} (i : Nat) {k : Nat} {x xf : Str} {st : Stmt} {ps : List Str} {F : List Ent → R D} {f : Addr} {p pos : Pos} {e : Expr} {es : List Expr} {fa : M (List D)} (G : DefOk X.prog X.w X.K X.mg X.base xf st ps k none false F) (hf : X.mg xf = some (.ref f)) (hns : PySem.W.nsIn X.K mainGlobals xf = some (some (.ref f))) (hr : Room k X.A) (tk : Takes X W) (ha : SD X W T (e :: es) fa)
    (hN : X.N[i]? = some x := by rfl) (hv : Vis X.env.scope x := by first | exact Or.inl rfl | exact Or.inr (Or.inl rfl) | exact Or.inr (Or.inr rfl)) (hdb : (x == ("__debug__" : Str)) = false := by decide) (hcd : (x == ("__classdict__" : Str)) = false := by decide)
    (he : starEach (e :: es) X.env = (false, eval e X.env) :: starEach es X.env := by rfl) (hpl : (backTo pos (starEach es X.env)).any (·.1) = false := by rfl) (hn : ps.length = np := by rfl) : SE X W T (.Call (.Name x p) (e :: es) [] pos) (callP i xf np F fa) := by
  subst hn
  obtain ⟨f', fd, hm, hk, _, FO, hb⟩ := G.ex
  have ef : f' = f := by rw [hf] at hm; cases hm; rfl
  subst ef
  obtain ⟨ta, pa, ea⟩ := ha.ex
  refine ⟨_, pe_callLS (E := WE W) FO hr hN hv hk hb (fun σ => passAt tk σ) pa hdb hcd he hpl, fun x Q s p => ?_⟩
  unfold callP isDef mB at p
  cases q : x.r[i]? with
  | none => simp only [q] at p; exact p.elim
  | some en =>
    simp only [q] at p
    cases en with
    | no => exact p.elim
    | cel _ _ => exact p.elim
    | val d =>
      cases d <;> try exact p.elim
      rename_i w
      by_cases c : w = xf
      · subst c
        simp only [if_true] at p
        obtain ⟨v, h1, h2⟩ := s.val i _ q
        cases h2
        rename_i g hg
        rw [hns] at hg
        cases hg
        refine ⟨h1, ?_⟩
        have := ev_call (np := ps.length) (F := F) ea x Q s p
        unfold tCallSD at this
        simp only [List.append_nil] at this
        exact this
      · simp only [c, if_false] at p
        exact p.elim
/-- a def of the module as a value -/
theorem se_def {x : Str} {f : Addr} {pos : Pos} (hm : X.mg x = some (.ref f)) (hns : PySem.W.nsIn X.K mainGlobals x = some (some (.ref f))) (hg : Gl X x := by rfl) (hd : (x == ("__debug__" : Str)) = false := by decide) : SE X W T (.Name x pos) (xC (.dfn x)) :=
  ⟨_, pe_glob (v := .ref f) hg hm rfl hd, ev_const fun _ => .dfn hns⟩
end
end FL
namespace FL
open PySem PySem.Spec L2
section
variable {X : Cx} {W : WX} {T : List Nat} {K : PySem.W.Frag}
/-! ### constants of the module, {} -/
theorem se_cint {x : Str} {i : Int} {pos : Pos} (h : ∃ t, X.mg x = some (.int i t)) (hg : Gl X x := by rfl) (hd : (x == ("__debug__" : Str)) = false := by decide) : SE X W T (.Name x pos) (xC (.int i)) := by
  obtain ⟨t, h⟩ := h
  exact se_glob h (v := .int i) ⟨t, rfl⟩ (fun _ => .int i) hg hd
theorem se_cstr {x y : Str} {pos : Pos} (h : ∃ t, X.mg x = some (.str y t)) (hg : Gl X x := by rfl) (hd : (x == ("__debug__" : Str)) = false := by decide) : SE X W T (.Name x pos) (xC (.str y)) := by
  obtain ⟨t, h⟩ := h
  exact se_glob h (v := .str y) ⟨t, rfl⟩ (fun _ => .str y) hg hd
theorem se_dict0 {pos : Pos} : SE X W T (.Dict [] [] pos) (xC (.dct [])) := by
  refine ⟨_, pe_dnewK, fun x Q s p => ?_⟩
  intro q hq
  exact Post.here p (Ext.new s hq) s rfl _ (.dct upd_same .nil)
/-! ### a, b = [], e: lists that are new beside values -/
inductive PIt where | val (d : D) | new (ds : List D)
inductive ItsR (K : PySem.W.Frag) (x y : Cf) : List V → List PIt → List Addr → Prop
  | nil : ItsR K x y [] [] []
  | val {v : V} {d : D} {vs : List V} {is : List PIt} {as : List Addr} : Rep K y.F v d → ItsR K x y vs is as → ItsR K x y (v :: vs) (.val d :: is) as
  | new {p : Addr} {us : List V} {ds : List D} {vs : List V} {is : List PIt} {as : List Addr} : FreshAt K y p us ds → x.H p = none → (∀ i k, ¬ CelAt y i k p) → p ∉ as → ItsR K x y vs is as → ItsR K x y (.ref p :: vs) (.new ds :: is) (p :: as)
def EvP (X : Cx) (W : WX) (T : List Nat) (ta : TA) (f : M (List PIt)) : Prop := ∀ (x : Cf) (Q : List V → Hp → Prop), RSt X.K x → Post X.K X.mg T W x (f x.r) (fun is y => y.s = x.s → ∀ vs as, ItsR X.K x y vs is as → Q vs y.H) → ta x.s x.H Q
structure SP' (X : Cx) (W : WX) (T : List Nat) (es : List Expr) (f : M (List PIt)) : Prop where
  ex : ∃ ta, PA X es ta ∧ EvP X W T ta f
def pVal (a : M D) (r : M (List PIt)) : M (List PIt) := mB a fun d => mB r fun is => mP (.val d :: is)
def pNew (a : M (List D)) (r : M (List PIt)) : M (List PIt) := mB a fun ds => mB r fun is => mP (.new ds :: is)
theorem sp_nil : SP' X W T [] (mP []) := ⟨_, pa_nil, fun x Q s p => p x rfl (Fr.refl T x) s rfl [] [] .nil⟩
theorem ItsR.back {x0 x y : Cf} (h : ∀ p, x.H p = none → x0.H p = none) {vs : List V} {is : List PIt} {as : List Addr} (r : ItsR K x y vs is as) : ItsR K x0 y vs is as := by
  induction r with
  | nil => exact .nil
  | val h1 _ ih => exact .val h1 ih
  | new h1 h2 h3 h4 _ ih => exact .new h1 (h _ h2) h3 h4 ih
theorem ItsR.fresh {x y : Cf} {vs : List V} {is : List PIt} {as : List Addr} (r : ItsR K x y vs is as) : ∀ p ∈ as, x.H p = none := by
  induction r with
  | nil => intro p h; cases h
  | val _ _ ih => exact ih
  | new _ h2 _ _ _ ih =>
    intro p h
    rcases List.mem_cons.mp h with z | z
    · rw [z]; exact h2
    · exact ih p z
theorem EvP.bind {α : Type} {te : TA} {f : M (List PIt)} {k : List PIt → M α} {x : Cf} {Q : List V → Hp → Prop} {Qf : α → Cf → Prop} (h : EvP X W T te f) (s : RSt X.K x) (p : Post X.K X.mg T W x (mB f k x.r) Qf)
    (n : ∀ is y, Fr T x y → RSt X.K y → y.s = x.s → ∀ vs as, ItsR X.K x y vs is as → Post X.K X.mg T W y (k is y.r) Qf → Q vs y.H) : te x.s x.H Q := by
  refine h x Q s ?_
  unfold mB at p
  cases e : f x.r with
  | ok d ρ =>
    simp only [e] at p
    intro y hy fr sy hs vs as hv
    rw [← hy] at p
    exact n d y fr sy hs vs as hv (p.shift fr)
  | exc c pl ρ => simp only [e] at p; exact p
  | bad => simp only [e] at p; exact p
variable {e : Expr} {es : List Expr}
theorem sp_val {fa : M D} {fr : M (List PIt)} (ha : SE X W T e fa) (hr : SP' X W T es fr) (hs : starEach (e :: es) X.env = (false, eval e X.env) :: starEach es X.env := by rfl) : SP' X W T (e :: es) (pVal fa fr) := by
  obtain ⟨ta, pa, ea⟩ := ha.ex
  obtain ⟨tr, pr, er⟩ := hr.ex
  refine ⟨_, pa_cons pa pr hs, fun x Q s p => ?_⟩
  refine ea.bind s p fun d y f1 s1 e1 v hv p1 => ?_
  show tr x.s y.H _
  rw [← e1]
  exact er.bind s1 p1 fun is z f2 s2 e2 vs as hvs p2 => p2 z rfl (Fr.refl T z) s2 (e2.trans e1) (v :: vs) as (.val (hv.mono f2.ff) (hvs.back f1.dm))
theorem sp_new {fa : M (List D)} {fr : M (List PIt)} (ha : SL X W T e fa) (hr : SP' X W T es fr) (hs : starEach (e :: es) X.env = (false, eval e X.env) :: starEach es X.env := by rfl) : SP' X W T (e :: es) (pNew fa fr) := by
  obtain ⟨ta, pa, ea⟩ := ha.ex
  obtain ⟨tr, pr, er⟩ := hr.ex
  refine ⟨_, pa_cons pa pr hs, fun x Q s p => ?_⟩
  refine ea.bind s p fun ds y f1 s1 e1 q us h1 h2 h3 p1 => ?_
  show tr x.s y.H _
  rw [← e1]
  refine er.bind s1 p1 fun is z f2 s2 e2 vs as hvs p2 => ?_
  obtain ⟨g1, g2, g3⟩ := stays f2 h1.1 h1.2.1 h3
  exact p2 z rfl (Fr.refl T z) s2 (e2.trans e1) (.ref q :: vs) (q :: as) (.new ⟨g1, g2, h1.2.2.mono f2.ff⟩ h2 g3 (fun hm => by
    have := hvs.fresh q hm
    rw [h1.1] at this; cases this) (hvs.back f1.dm))
/-- the items into the slots -/
def setIts : List Nat → List PIt → M Unit
  | [], [] => mP ()
  | i :: is, .val d :: r => mB (setv i d) fun _ => setIts is r
  | i :: is, .new ds :: r => mB (setc i .own ds) fun _ => setIts is r
  | _, _ => fun _ => .bad
def setSs (σ : L2.St) : List Nat → List V → L2.St
  | i :: is, v :: vs => setSs (σ.set i (some v)) is vs
  | _, _ => σ
theorem setIts_run {x : Cf} {α : Type} {m : M α} {Q : α → Cf → Prop} : ∀ {js : List Nat} {vs : List V} {is : List PIt} {as : List Addr} {y : Cf}, RSt X.K y → Fr T x y → ItsR X.K x y vs is as → (∀ j ∈ js, j ∈ T) →
    Post X.K X.mg T W x (mB (setIts js is) (fun _ => m) y.r) Q → ∃ z : Cf, z.s = setSs y.s js vs ∧ z.H = y.H ∧ RSt X.K z ∧ Fr T x z ∧ Post X.K X.mg T W x (m z.r) Q ∧ js.length = vs.length
  | [], _, _, _, y, s, f, .nil, hT, p => ⟨y, rfl, rfl, s, f, p, rfl⟩
  | [], _, _, _, y, s, f, .val _ _, hT, p => p.elim
  | [], _, _, _, y, s, f, .new _ _ _ _ _, hT, p => p.elim
  | j :: js, _, _, _, y, s, f, .nil, hT, p => p.elim
  | j :: js, _, _, _, y, s, f, .val (v := v) (d := d) (vs := vs) (is := is) (as := as) h r, hT, p => by
    obtain ⟨f2, s2⟩ := setv_ok (T := T) s h (hT j List.mem_cons_self)
    have p' : Post X.K X.mg T W x (mB (mB (setv j d) fun _ => setIts js is) (fun _ => m) y.r) Q := p
    unfold mB setv at p'
    by_cases c : j < y.r.length
    · simp only [c, if_true] at p'
      have r2 : ItsR X.K x ⟨y.F, y.H, y.s.set j (some v), y.r.set j (.val d)⟩ vs is as := by
        clear p p'
        induction r with
        | nil => exact .nil
        | val h1 _ ih => exact .val h1 ih
        | new h1 h2 h3 h4 _ ih => exact .new h1 h2 (fun i k c => h3 i k (setv_cel c).2) h4 ih
      obtain ⟨z, a1, a2, a3, a4, a5, a6⟩ := setIts_run (js := js) s2 (f.trans f2) r2 (fun i hi => hT i (List.mem_cons_of_mem _ hi)) p'
      exact ⟨z, a1, a2, a3, a4, a5, congrArg (· + 1) a6⟩
    · simp only [c, if_false] at p'
      exact p'.elim
  | j :: js, _, _, _, y, s, f, .new (p := q) (us := us) (ds := ds) (vs := vs) (is := is) (as := as) h1 h2 h3 h4 r, hT, p => by
    obtain ⟨key, s2⟩ := setc_ok (i := j) s h1 h3
    have hj := hT j List.mem_cons_self
    have p' : Post X.K X.mg T W x (mB (mB (setc j .own ds) fun _ => setIts js is) (fun _ => m) y.r) Q := p
    unfold mB setc at p'
    by_cases c : j < y.r.length
    · simp only [c, if_true] at p'
      have f2 : Fr T x ⟨y.F, y.H, y.s.set j (some (.ref q)), y.r.set j (.cel .own ds)⟩ := by
        refine ⟨(List.length_set ..).trans f.ln, f.ff, f.dm, f.nw, f.hp, fun i k a cc => ?_, fun i hi => ?_⟩
        · rcases key i k a cc with ⟨_, a2, a3⟩ | ⟨_, a2⟩
          · exact .inl ⟨a2, by rw [a3]; exact h2⟩
          · exact f.cc i k a a2
        · have ne : j ≠ i := fun z => hi (z ▸ hj)
          obtain ⟨g1, g2⟩ := f.un i hi
          exact ⟨(List.getElem?_set_ne ne).trans g1, (List.getElem?_set_ne ne).trans g2⟩
      have r2 : ItsR X.K x ⟨y.F, y.H, y.s.set j (some (.ref q)), y.r.set j (.cel .own ds)⟩ vs is as := by
        clear p p'
        induction r with
        | nil => exact .nil
        | val h1 _ ih => exact .val h1 (ih h4)
        | new g1 g2 g3 g4 _ ih =>
          refine .new g1 g2 (fun i k c => ?_) g4 (ih fun z => h4 (List.mem_cons_of_mem _ z))
          rcases key i k _ c with ⟨_, _, a3⟩ | ⟨_, a2⟩
          · exact h4 (by rw [← a3]; exact List.mem_cons_self)
          · exact g3 i k a2
      obtain ⟨z, a1, a2, a3, a4, a5, a6⟩ := setIts_run (js := js) s2 f2 r2 (fun i hi => hT i (List.mem_cons_of_mem _ hi)) p'
      exact ⟨z, a1, a2, a3, a4, a5, congrArg (· + 1) a6⟩
    · simp only [c, if_false] at p'
      exact p'.elim
def sParN (js : List Nat) (m : M (List PIt)) : M Fl := mB m fun is => mB (setIts js is) fun _ => mP .nx
theorem ss_parN2 (i j : Nat) {x y : Str} {a b : Expr} {m : M (List PIt)} {px py pt pos : Pos} {kt k2 pt2} (hc : X.calm = true) (hN : X.N.Nodup) (ha : SP' X W T [a, b] m) (hw : swappedStores [.Tuple [.Name x px, .Name y py] kt pt] (.Tuple [a, b] k2 pt2) X.env = pure (some [x, y]))
    (hi : X.N[i]? = some x := by rfl) (hj : X.N[j]? = some y := by rfl) (hij : i ≠ j := by decide) (hx : X.env.scope.names.lookup x = some .local := by rfl) (hy : X.env.scope.names.lookup y = some .local := by rfl) (hT : ∀ l ∈ [i, j], l ∈ T := by decide)
    (hs : swapsWithSole [.Tuple [.Name x px, .Name y py] kt pt] (.Tuple [a, b] k2 pt2) pos.line X.env = pure false := by rfl) : SS X W T (.Assign [.Tuple [.Name x px, .Name y py] kt pt] (.Tuple [a, b] k2 pt2) pos) (sParN [i, j] m) := by
  obtain ⟨ta, pa, ea⟩ := ha.ex
  refine ⟨_, ps_par hc hN hi hj hij hx hy pa hw hs, fun z Dn s p => ?_⟩
  refine ea z _ s ?_
  unfold sParN mB at p
  cases e0 : m z.r with
  | exc c pl ρ => simp only [e0] at p; exact p
  | bad => simp only [e0] at p; exact p
  | ok is ρ =>
    simp only [e0] at p
    intro y hy f1 s1 e1 vs as hv
    rw [← hy] at p
    obtain ⟨w, a1, a2, a3, a4, a5, a6⟩ := setIts_run (m := mP Fl.nx) s1 f1 hv hT p
    match vs, a6 with
    | [v, u], _ =>
      refine ⟨v, u, rfl, ?_⟩
      have h := a5 w rfl a4 a3
      have h' : Dn.nx w.s w.H := h
      rw [a1, a2, e1] at h'
      exact h'
theorem ss_parN3 (i j l : Nat) {x y z : Str} {a b c : Expr} {m : M (List PIt)} {px py pz pt pos : Pos} {kt k2 pt2} (hc : X.calm = true) (hN : X.N.Nodup) (ha : SP' X W T [a, b, c] m) (hw : swappedStores [.Tuple [.Name x px, .Name y py, .Name z pz] kt pt] (.Tuple [a, b, c] k2 pt2) X.env = pure (some [x, y, z]))
    (hi : X.N[i]? = some x := by rfl) (hj : X.N[j]? = some y := by rfl) (hl : X.N[l]? = some z := by rfl) (hij : i ≠ j := by decide) (hil : i ≠ l := by decide) (hjl : j ≠ l := by decide) (hx : X.env.scope.names.lookup x = some .local := by rfl) (hy : X.env.scope.names.lookup y = some .local := by rfl) (hz : X.env.scope.names.lookup z = some .local := by rfl) (hT : ∀ m ∈ [i, j, l], m ∈ T := by decide)
    (hs : swapsWithSole [.Tuple [.Name x px, .Name y py, .Name z pz] kt pt] (.Tuple [a, b, c] k2 pt2) pos.line X.env = pure false := by rfl) : SS X W T (.Assign [.Tuple [.Name x px, .Name y py, .Name z pz] kt pt] (.Tuple [a, b, c] k2 pt2) pos) (sParN [i, j, l] m) := by
  obtain ⟨ta, pa, ea⟩ := ha.ex
  refine ⟨_, ps_par3 hc hN hi hj hl hij hil hjl hx hy hz pa hw hs, fun q Dn s p => ?_⟩
  refine ea q _ s ?_
  unfold sParN mB at p
  cases e0 : m q.r with
  | exc c pl ρ => simp only [e0] at p; exact p
  | bad => simp only [e0] at p; exact p
  | ok is ρ =>
    simp only [e0] at p
    intro y hy f1 s1 e1 vs as hv
    rw [← hy] at p
    obtain ⟨w, a1, a2, a3, a4, a5, a6⟩ := setIts_run (m := mP Fl.nx) s1 f1 hv hT p
    match vs, a6 with
    | [v, u, t], _ =>
      refine ⟨v, u, t, rfl, ?_⟩
      have h := a5 w rfl a4 a3
      have h' : Dn.nx w.s w.H := h
      rw [a1, a2, e1] at h'
      exact h'
/-- a statement behind a list that is frozen from here on -/
theorem ss_frz (j : Nat) {st : Stmt} {m : M Fl} (h : SS X W T st m) (hj : j ∈ T := by decide) : SS X W T st (frz j m) := by
  obtain ⟨te, pe, ev⟩ := h.ex
  refine ⟨te, pe, fun x Q s p => ?_⟩
  obtain ⟨y, e1, e2, f, sy, p1⟩ := frz_run hj s p
  rw [← e1, ← e2]
  exact ev y Q sy (p1.mono fun a z _ _ q => SQ.shift f q)
theorem st_frz (j : Nat) {e : Expr} {m : M Bool} (h : ST X W T e m) (hj : j ∈ T := by decide) : ST X W T e (frz j m) := by
  obtain ⟨te, pe, ev⟩ := h.ex
  refine ⟨te, pe, fun x Q s p => ?_⟩
  obtain ⟨y, e1, e2, f, sy, p1⟩ := frz_run hj s p
  rw [← e1, ← e2]
  exact ev y Q sy (p1.mono fun a z _ _ q hs => q (hs.trans e1))
end
end FL
namespace FL
open PySem PySem.Spec L2
/-! ### the law's call -/
theorem fun_same {K : PySem.W.Frag} {x q : Str} {st : Stmt} {f : Addr} {fd fd' : FuncData} (A : Fun K x q st f fd) (B : Fun K x q st f fd') : fd' = fd := by
  obtain ⟨oc, od, kV, doc, pm, an, cdv, ct, osl, _, h1, _⟩ := A.ex
  obtain ⟨oc', od', kV', doc', pm', an', cdv', ct', osl', _, h2, _⟩ := B.ex
  rw [h1] at h2
  injection h2 with h2
  injection h2 with _ _ h2 _
  injection h2 with h2
  exact h2.symm
/-- what the plain function has to do -/
def Plain (F : List Ent → R D) : Prop := ∀ ns : List Int, ns.length ≤ 63 → (∀ z ∈ ns, Builtin.Int.intBits z ≤ 1048576) → F [.val (.scr (ns.map .int))] = .ok (.bl true) []
def spLaw (K : PySem.W.Frag) : Sp := fun vs H Q _ => ∃ (a : Addr) (ns : List Int), vs = [.ref a] ∧ SqL K H a (ns.map V.int) ∧ ns.length ≤ 63 ∧ (∀ z ∈ ns, Builtin.Int.intBits z ≤ 1048576) ∧ ∀ H', Q (.bl true) H'
theorem rep_ints {K : PySem.W.Frag} {F : Hp} : ∀ ns : List Int, RepL K F (ns.map V.int) (ns.map D.int)
  | [] => .nil
  | z :: ns => .cons (.int z) (rep_ints ns)
theorem law_imp {K : PySem.W.Frag} {mg : Str → Option Value} {F : List Ent → R D} (hF : Plain F) : ∀ vs H Q E, spLaw K vs H Q E → SpF K mg none false 1 F vs H Q E := by
  rintro vs H Q E ⟨a, ns, rfl, hS, hl, hb, hq⟩
  refine ⟨rfl, ⟨H, H, [some (.ref a)], [.val (.scr (ns.map .int))]⟩, rfl, rfl, ⟨Same.refl _, rfl, fun i d h => ?_, fun i k es h => ?_, fun i j k l p h _ => ?_⟩, fun i k p h => ?_, ?_⟩
  · match i, h with
    | 0, h =>
      cases h
      exact ⟨.ref a, rfl, .scr hS (rep_ints ns)⟩
  · match i, h with
    | 0, h => cases h
  · obtain ⟨⟨ds, h⟩, _⟩ := h
    match i, h with
    | 0, h => cases h
  · obtain ⟨⟨ds, h⟩, _⟩ := h
    match i, h with
    | 0, h => cases h
  · show PostF K mg none false _ (F [.val (.scr (ns.map .int))]) Q E
    rw [hF ns hl hb]
    intro y _ _ _ _ v hv
    cases hv
    exact hq _
theorem walkF {l : PySem.W.OpenLaw} {q : Program} {loose : List Str} {k : Nat} {XP : (Str → Option Value) → Heap → Prop} {YP : World → Heap → Prop} {d : DefRec} {K : Params → PySem.W.Frag} (hn : l.most = some 63) (hdf : d.params.defaults = []) (hk : Room k callerA)
    (hY : ∀ (w : World) (h : Heap), YP w h → (K w.params).In h)
    (F : ∀ (w : World) (mg : Str → Option Value) (fa : Addr) (h : Heap), (K w.params).In h → h.Ns mainGlobals mg → mg d.name = some (.ref fa) →
      ∃ fd : FuncData, (∀ (s : Shared) (u : Value), BindsTo s fd ⟨[u], []⟩ [("script", u)]) ∧ ∀ base : Heap, (K w.params).In base → base.Ns mainGlobals mg → FnOk l.prog w (K w.params) mg base (L2.CX l.prog w) k fa fd ["script"] (spLaw (K w.params))) :
    PySem.W.WalkO q loose XP YP l.row.toRowW d [] (fun f vs => PySem.call f vs) :=
  L2.walk_ofB (n := 63) (k := k) (x := "script") (CX := fun w => L2.CX l.prog w) (sp := fun w => spLaw (K w.params)) hn (by decide) hdf hk hY F (fun _ _ a ns hl hb _ hS => ⟨a, ns, rfl, hS, hl, hb, fun _ => rfl⟩) fun w H s e s' z => by
    obtain ⟨_, _, _, _, _, _, _, _, _, _, _, _, z⟩ := z
    exact z
end FL
namespace FL
open PySem PySem.Spec L2
/-! ### plain reasoning -/
def Wp {α : Type} (m : M α) (r : List Ent) (Q : α → List Ent → Prop) : Prop := match m r with
  | .ok a r' => Q a r'
  | _ => False
def WpF (F : List Ent → R D) (es : List Ent) (Q : D → List Ent → Prop) : Prop := match F es with
  | .ok d o => Q d o
  | _ => False
variable {α β : Type} {r : List Ent} {Q : α → List Ent → Prop}
theorem Wp.imp {m : M α} {Q' : α → List Ent → Prop} (h : Wp m r Q) (q : ∀ a r', Q a r' → Q' a r') : Wp m r Q' := by
  unfold Wp at h ⊢
  cases e : m r with
  | ok a r' => rw [e] at h; exact q _ _ h
  | exc c p r' => rw [e] at h; exact h
  | bad => rw [e] at h; exact h
theorem WpF.imp {F : List Ent → R D} {es : List Ent} {Q Q' : D → List Ent → Prop} (h : WpF F es Q) (q : ∀ a r', Q a r' → Q' a r') : WpF F es Q' := by
  unfold WpF at h ⊢
  cases e : F es with
  | ok a r' => rw [e] at h; exact q _ _ h
  | exc c p r' => rw [e] at h; exact h
  | bad => rw [e] at h; exact h
theorem WpF.eq {F : List Ent → R D} {es : List Ent} {d : D} {o : List Ent} (h : WpF F es fun a b => a = d ∧ b = o) : F es = .ok d o := by
  unfold WpF at h
  cases e : F es with
  | ok a r' => rw [e] at h; rw [h.1, h.2]
  | exc c p r' => rw [e] at h; exact h.elim
  | bad => rw [e] at h; exact h.elim
theorem WpF.of {F : List Ent → R D} {es : List Ent} {d : D} {o : List Ent} {Q : D → List Ent → Prop} (h : F es = .ok d o) (q : Q d o) : WpF F es Q := by
  unfold WpF
  rw [h]
  exact q
theorem wp_P {a : α} (q : Q a r) : Wp (mP a) r Q := q
theorem wp_B {m : M β} {f : β → M α} (h : Wp m r fun b r' => Wp (f b) r' Q) : Wp (mB m f) r Q := by
  unfold Wp mB at *
  cases e : m r with
  | ok a r' => rw [e] at h; exact h
  | exc c p r' => rw [e] at h; exact h.elim
  | bad => rw [e] at h; exact h.elim
theorem wp_O {a : α} {o : Option α} (e : o = some a) (q : Q a r) : Wp (mO o) r Q := by subst e; exact q
theorem wp_of {m : M α} {a : α} {r' : List Ent} (e : m r = .ok a r') (q : Q a r') : Wp m r Q := by unfold Wp; rw [e]; exact q
section
variable {Q : D → List Ent → Prop} {a b c m : M D} {i j : Nat} {d e : D}
theorem wp_var (h : r[i]? = some (.val d)) (q : Q d r) : Wp (xVar i) r Q := by unfold Wp xVar; rw [h]; exact q
theorem wp_C (q : Q d r) : Wp (xC d) r Q := q
theorem wp_2 {op : D → D → Option D} (h : Wp a r fun d r1 => Wp b r1 fun e r2 => Wp (mO (op d e)) r2 Q) : Wp (x2 op a b) r Q := wp_B (h.imp fun _ _ h => wp_B h)
theorem wp_1 {op : D → Option D} (h : Wp a r fun d r1 => Wp (mO (op d)) r1 Q) : Wp (x1 op a) r Q := wp_B h
theorem wp_xB {o : List D → Option D} {m : M (List D)} (h : Wp m r fun ds r1 => Wp (mO (o ds)) r1 Q) : Wp (xB o m) r Q := wp_B h
theorem wp_lB {o : List D → Option (List D)} {m : M (List D)} {Q : List D → List Ent → Prop} (h : Wp m r fun ds r1 => Wp (mO (o ds)) r1 Q) : Wp (lB o m) r Q := wp_B h
theorem wp_iOf {o : List D → Option (List D)} {m : M (List D)} {Q : List D → List Ent → Prop} (h : Wp m r fun ds r1 => Wp (mO (o ds)) r1 Q) : Wp (iOf o m) r Q := wp_B h
theorem wp_iRow {Q : List D → List Ent → Prop} (h : Wp m r fun d r1 => Wp (mO (rowD d)) r1 Q) : Wp (iRow m) r Q := wp_B h
theorem wp_cons {m : M (List D)} {Q : List D → List Ent → Prop} (h : Wp a r fun d r1 => Wp m r1 fun ds r2 => Q (d :: ds) r2) : Wp (dCons a m) r Q := wp_B (h.imp fun _ _ h => wp_B h)
theorem wp_tup {m : M (List D)} (h : Wp m r fun ds r1 => ds.length ≤ most ∧ Q (.tup ds) r1) : Wp (xTup m) r Q := wp_B (h.imp fun ds _ h => by
  show Wp (if decide (ds.length ≤ most) then mP (.tup ds) else fun _ => .bad) _ Q
  rw [if_pos (decide_eq_true h.1)]
  exact h.2)
theorem wp_lst {m : M (List D)} {Q : List D → List Ent → Prop} (h : Wp m r fun ds r1 => ds.length ≤ most ∧ Q ds r1) : Wp (lLst m) r Q := wp_B (h.imp fun ds _ h => by
  show Wp (if decide (ds.length ≤ most) then mP ds else fun _ => .bad) _ Q
  rw [if_pos (decide_eq_true h.1)]
  exact h.2)
theorem wp_fz {m : M (List D)} (h : Wp m r fun ds r1 => Q (.lst ds) r1) : Wp (xFz m) r Q := wp_B h
theorem wp_oInt {Q : Option Int → List Ent → Prop} (h : Wp m r fun d r1 => ∃ i, d = .int i ∧ Q (some i) r1) : Wp (oInt m) r Q := wp_B (h.imp fun d _ ⟨i, e, q⟩ => by subst e; exact q)
theorem wp_cut {lo hi : M (Option Int)} (h : Wp a r fun d r1 => Wp lo r1 fun l r2 => Wp hi r2 fun h r3 => Wp (mO (cutD d l h)) r3 Q) : Wp (xCut a lo hi) r Q := wp_B (h.imp fun _ _ h => wp_B (h.imp fun _ _ h => wp_B h))
theorem wp_xT {Q : Bool → List Ent → Prop} (h : Wp m r fun d r1 => ∃ k, d = .bl k ∧ Q k r1) : Wp (mT m) r Q := wp_B (h.imp fun d _ ⟨i, e, q⟩ => by subst e; exact q)
theorem wp_tru {Q : Bool → List Ent → Prop} (h : Wp m r fun d r1 => ∃ k, truB d = some k ∧ Q k r1) : Wp (mTru m) r Q := wp_B (h.imp fun d _ ⟨i, e, q⟩ => wp_O e q)
theorem wp_and (h : Wp a r fun d r1 => ∃ k, truB d = some k ∧ (k = true → Wp b r1 Q) ∧ (k = false → Q d r1)) : Wp (xAnd a b) r Q := wp_B (h.imp fun d _ ⟨k, e, h1, h2⟩ => wp_B (wp_O e (by
  cases k with
  | true => exact h1 rfl
  | false => exact h2 rfl)))
theorem wp_or (h : Wp a r fun d r1 => ∃ k, truB d = some k ∧ (k = false → Wp b r1 Q) ∧ (k = true → Q d r1)) : Wp (xOr a b) r Q := wp_B (h.imp fun d _ ⟨k, e, h1, h2⟩ => wp_B (wp_O e (by
  cases k with
  | true => exact h2 rfl
  | false => exact h1 rfl)))
theorem wp_not (h : Wp a r fun d r1 => ∃ k, truB d = some k ∧ Q (.bl (!k)) r1) : Wp (xNot a) r Q := wp_B (h.imp fun d _ ⟨k, e, h1⟩ => wp_B (wp_O e h1))
theorem wp_tAnd {a b : M Bool} {Q : Bool → List Ent → Prop} (h : Wp a r fun k r1 => (k = true → Wp b r1 Q) ∧ (k = false → Q false r1)) : Wp (tAndM a b) r Q := wp_B (h.imp fun k _ ⟨h1, h2⟩ => by
  cases k with
  | true => exact h1 rfl
  | false => exact h2 rfl)
theorem wp_tOr {a b : M Bool} {Q : Bool → List Ent → Prop} (h : Wp a r fun k r1 => (k = false → Wp b r1 Q) ∧ (k = true → Q true r1)) : Wp (tOrM a b) r Q := wp_B (h.imp fun k _ ⟨h1, h2⟩ => by
  cases k with
  | true => exact h2 rfl
  | false => exact h1 rfl)
theorem wp_tNot {a : M Bool} {Q : Bool → List Ent → Prop} (h : Wp a r fun k r1 => Q (!k) r1) : Wp (tNotM a) r Q := wp_B h
theorem wp_xIf {c : M Bool} (h : Wp c r fun k r1 => (k = true → Wp a r1 Q) ∧ (k = false → Wp b r1 Q)) : Wp (xIf c a b) r Q := wp_B (h.imp fun k _ ⟨h1, h2⟩ => by
  cases k with
  | true => exact h1 rfl
  | false => exact h2 rfl)
theorem wp_chain {o o' : D → D → Option D} (h : Wp a r fun d r1 => Wp b r1 fun e r2 => ∃ k, o d e = some (.bl k) ∧ (k = true → Wp c r2 fun g r3 => Wp (mO (o' e g)) r3 Q) ∧ (k = false → Q (.bl false) r2)) : Wp (xChain o o' a b c) r Q :=
  wp_B (h.imp fun _ _ h => wp_B (h.imp fun _ _ ⟨k, e, h1, h2⟩ => wp_B (wp_O e (by
    cases k with
    | true => exact wp_B (h1 rfl)
    | false => exact h2 rfl))))
/-! statements -/
theorem wp_seq {f g : M Fl} {Q : Fl → List Ent → Prop} (h : Wp f r fun fl r1 => (fl = .nx → Wp g r1 Q) ∧ (fl ≠ .nx → Q fl r1)) : Wp (sSeq f g) r Q := wp_B (h.imp fun fl _ ⟨h1, h2⟩ => by
  cases fl with
  | nx => exact h1 rfl
  | _ => exact h2 (fun z => nomatch z))
theorem wp_sIf {c : M Bool} {a b : M Fl} {Q : Fl → List Ent → Prop} (h : Wp c r fun k r1 => (k = true → Wp a r1 Q) ∧ (k = false → Wp b r1 Q)) : Wp (sIf c a b) r Q := wp_B (h.imp fun k _ ⟨h1, h2⟩ => by
  cases k with
  | true => exact h1 rfl
  | false => exact h2 rfl)
theorem wp_ret {Q : Fl → List Ent → Prop} (h : Wp m r fun d r1 => Q (.rt d) r1) : Wp (sRet m) r Q := wp_B h
theorem wp_retL {m : M (List D)} {Q : Fl → List Ent → Prop} (h : Wp m r fun d r1 => Q (.rtL d) r1) : Wp (sRetL m) r Q := wp_B h
theorem wp_retC {ds : List D} {Q : Fl → List Ent → Prop} (h : r[i]? = some (.cel .own ds)) (q : Q (.rtL ds) r) : Wp (sRetC i) r Q := by unfold Wp sRetC; rw [h]; exact q
theorem wp_expr {Q : Fl → List Ent → Prop} (h : Wp m r fun d r1 => Q .nx r1) : Wp (sExpr m) r Q := wp_B h
theorem wp_setv {Q : Unit → List Ent → Prop} (h : i < r.length) (q : Q () (r.set i (.val d))) : Wp (setv i d) r Q := by unfold Wp setv; rw [if_pos h]; exact q
theorem wp_setc {k : CK} {ds : List D} {Q : Unit → List Ent → Prop} (h : i < r.length) (q : Q () (r.set i (.cel k ds))) : Wp (setc i k ds) r Q := by unfold Wp setc; rw [if_pos h]; exact q
theorem wp_set {Q : Fl → List Ent → Prop} (h : Wp m r fun d r1 => i < r1.length ∧ Q .nx (r1.set i (.val d))) : Wp (sSet i m) r Q := wp_B (h.imp fun _ _ ⟨h1, h2⟩ => wp_B (wp_setv h1 h2))
theorem wp_setL {m : M (List D)} {Q : Fl → List Ent → Prop} (h : Wp m r fun ds r1 => i < r1.length ∧ Q .nx (r1.set i (.cel .own ds))) : Wp (sSetL i m) r Q := wp_B (h.imp fun _ _ ⟨h1, h2⟩ => wp_B (wp_setc h1 h2))
theorem wp_asg {g : D → M Unit} {Q : Fl → List Ent → Prop} (h : Wp m r fun d r1 => Wp (g d) r1 fun _ r2 => Q .nx r2) : Wp (sAsg m g) r Q := wp_B (h.imp fun _ _ h => wp_B h)
theorem wp_gsTup {n : Nat} {ds : List D} {g : List D → M Unit} {Q : Unit → List Ent → Prop} (h : ds.length = n) (q : Wp (g ds) r Q) : Wp (gsTup n g (.tup ds)) r Q := by
  show Wp (if ds.length = n then g ds else fun _ => .bad) r Q
  rw [if_pos h]
  exact q
theorem wp_gsCons {f : D → M Unit} {g : List D → M Unit} {ds : List D} {Q : Unit → List Ent → Prop} (h : Wp (f d) r fun _ r1 => Wp (g ds) r1 Q) : Wp (gsCons f g (d :: ds)) r Q := wp_B h
theorem wp_gsNil {Q : Unit → List Ent → Prop} (h : Q () r) : Wp (gsNil []) r Q := h
theorem wp_gsSub {ix : M D} {Q : Unit → List Ent → Prop} (h : Wp ix r fun i r1 => ∃ k ds es, r1[j]? = some (.cel k ds) ∧ setIx d i ds = some es ∧ Q () (r1.set j (.cel k es))) (hc : ∃ k ds, r[j]? = some (.cel k ds)) : Wp (gsSub j ix d) r Q := by
  obtain ⟨k, ds, hc⟩ := hc
  refine wp_B (wp_of (a := ()) (r' := r) (by unfold hasC; rw [hc]) ?_)
  refine wp_B (h.imp fun i r1 ⟨k, ds, es, e1, e2, q⟩ => wp_B (wp_of (a := ()) (r' := r1.set j (.cel k es)) (by unfold updc; rw [e1]; simp only; rw [e2]) q))
theorem wp_app {Q : Fl → List Ent → Prop} (hc : ∃ k ds, r[j]? = some (.cel k ds)) (h : Wp m r fun d r1 => ∃ k ds, r1[j]? = some (.cel k ds) ∧ ds.length < most ∧ Q .nx (r1.set j (.cel k (ds ++ [d])))) : Wp (sApp j m) r Q := by
  obtain ⟨k, ds, hc⟩ := hc
  refine wp_B (wp_of (a := ()) (r' := r) (by unfold hasC; rw [hc]) ?_)
  refine wp_B (h.imp fun d r1 ⟨k, ds, e1, e2, q⟩ => wp_B (wp_of (a := ()) (r' := r1.set j (.cel k (ds ++ [d]))) (by unfold updc appC; rw [e1]; simp only; rw [if_pos (decide_eq_true e2)]) q))
theorem wp_par2 {m : M (List D)} {Q : Fl → List Ent → Prop} (h : Wp m r fun ds r1 => ∃ d e, ds = [d, e] ∧ i < r1.length ∧ j < r1.length ∧ Q .nx ((r1.set i (.val d)).set j (.val e))) : Wp (sPar2 i j m) r Q := wp_B (h.imp fun ds r1 ⟨d, e, q, h1, h2, h3⟩ => by
  subst q
  exact wp_B (wp_setv h1 (wp_B (wp_setv (by rw [List.length_set]; exact h2) h3))))
theorem wp_par3 {l : Nat} {m : M (List D)} {Q : Fl → List Ent → Prop} (h : Wp m r fun ds r1 => ∃ d e g, ds = [d, e, g] ∧ i < r1.length ∧ j < r1.length ∧ l < r1.length ∧ Q .nx (((r1.set i (.val d)).set j (.val e)).set l (.val g))) : Wp (sPar3 i j l m) r Q := wp_B (h.imp fun ds r1 ⟨d, e, g, q, h1, h2, h3, h4⟩ => by
  subst q
  exact wp_B (wp_setv h1 (wp_B (wp_setv (by rw [List.length_set]; exact h2) (wp_B (wp_setv (by rw [List.length_set, List.length_set]; exact h3) h4))))))
theorem wp_parN {js : List Nat} {m : M (List PIt)} {Q : Fl → List Ent → Prop} (h : Wp m r fun is r1 => Wp (setIts js is) r1 fun _ r2 => Q .nx r2) : Wp (sParN js m) r Q := wp_B (h.imp fun _ _ h => wp_B h)
theorem wp_pVal {m : M (List PIt)} {Q : List PIt → List Ent → Prop} (h : Wp a r fun d r1 => Wp m r1 fun ds r2 => Q (.val d :: ds) r2) : Wp (pVal a m) r Q := wp_B (h.imp fun _ _ h => wp_B h)
theorem wp_pNew {a : M (List D)} {m : M (List PIt)} {Q : List PIt → List Ent → Prop} (h : Wp a r fun d r1 => Wp m r1 fun ds r2 => Q (.new d :: ds) r2) : Wp (pNew a m) r Q := wp_B (h.imp fun _ _ h => wp_B h)
theorem wp_its0 {Q : Unit → List Ent → Prop} (h : Q () r) : Wp (setIts [] []) r Q := h
theorem wp_itsV {is : List Nat} {l : List PIt} {Q : Unit → List Ent → Prop} (h1 : i < r.length) (h : Wp (setIts is l) (r.set i (.val d)) Q) : Wp (setIts (i :: is) (.val d :: l)) r Q := wp_B (wp_setv h1 h)
theorem wp_itsN {is : List Nat} {ds : List D} {l : List PIt} {Q : Unit → List Ent → Prop} (h1 : i < r.length) (h : Wp (setIts is l) (r.set i (.cel .own ds)) Q) : Wp (setIts (i :: is) (.new ds :: l)) r Q := wp_B (wp_setc h1 h)
/-- a walk, by an invariant -/
theorem wp_forD {g : D → M Unit} {b : M Fl} {Q : Fl → List Ent → Prop} (I : List D → List Ent → Prop) (step : ∀ d ds r, I (d :: ds) r → Wp (g d) r fun _ r1 => Wp b r1 fun fl r2 => (fl = .nx ∨ fl = .co → I ds r2) ∧ (fl = .br → Q .nx r2) ∧ (∀ d, fl = .rt d → Q (.rt d) r2) ∧ ∀ ds, fl = .rtL ds → Q (.rtL ds) r2)
    (fin : ∀ r, I [] r → Q .nx r) : ∀ (ds : List D) (r : List Ent), I ds r → Wp (forD g b ds) r Q
  | [], r, h => fin r h
  | d :: ds, r, h => wp_B ((step d ds r h).imp fun _ r1 h1 => wp_B (h1.imp fun fl r2 ⟨h2, h3, h4, h5⟩ => by
    cases fl with
    | nx => exact wp_forD I step fin ds r2 (h2 (.inl rfl))
    | co => exact wp_forD I step fin ds r2 (h2 (.inr rfl))
    | br => exact h3 rfl
    | rt d => exact h4 d rfl
    | rtL ds => exact h5 ds rfl))
theorem wp_for {it : M (List D)} {g : D → M Unit} {b : M Fl} {Q : Fl → List Ent → Prop} (h : Wp it r fun ds r1 => Wp (forD g b ds) r1 Q) : Wp (sFor it g b) r Q := wp_B h
theorem wp_while1 {c : M Bool} {b : M Fl} {n : Nat} {Q : Fl → List Ent → Prop} (h : Wp c r fun k r1 => (k = true → Wp b r1 fun fl r2 => (fl = .nx ∨ fl = .co → Wp (whileD c b n) r2 Q) ∧ (fl = .br → Q .nx r2) ∧ (∀ d, fl = .rt d → Q (.rt d) r2) ∧ ∀ ds, fl = .rtL ds → Q (.rtL ds) r2) ∧ (k = false → Q .nx r1)) : Wp (whileD c b (n + 1)) r Q :=
  wp_B (h.imp fun k r1 ⟨h1, h2⟩ => by
    cases k with
    | false => exact h2 rfl
    | true => exact wp_B ((h1 rfl).imp fun fl r2 ⟨h3, h4, h5, h6⟩ => by
      cases fl with
      | nx => exact h3 (.inl rfl)
      | co => exact h3 (.inr rfl)
      | br => exact h4 rfl
      | rt d => exact h5 d rfl
      | rtL ds => exact h6 ds rfl))
/-! calls -/
theorem wp_callD {np : Nat} {F : List Ent → R D} {m : M (List D)} (h : Wp m r fun ds r1 => ds.length = np ∧ WpF F (valsOf ds) fun d _ => Q d r1) : Wp (callD np F m) r Q := wp_B (h.imp fun ds r1 ⟨h1, h2⟩ => by
  unfold Wp WpF at *
  simp only [h1, if_true]
  cases e : F (valsOf ds) with
  | ok a o => rw [e] at h2; exact h2
  | exc c p o => rw [e] at h2; exact h2
  | bad => rw [e] at h2; exact h2)
theorem wp_callL {np : Nat} {F : List Ent → R D} {m : M (List D)} {Q : List D → List Ent → Prop} (h : Wp m r fun ds r1 => ds.length = np ∧ WpF F (valsOf ds) fun d _ => ∃ es, d = .lst es ∧ Q es r1) : Wp (callL np F m) r Q := wp_B (h.imp fun ds r1 ⟨h1, h2⟩ => by
  unfold Wp WpF at *
  simp only [h1, if_true]
  cases e : F (valsOf ds) with
  | ok a o => rw [e] at h2; obtain ⟨es, rfl, q⟩ := h2; exact q
  | exc c p o => rw [e] at h2; exact h2
  | bad => rw [e] at h2; exact h2)
theorem wp_callKw {np n : Nat} {ix : List Nat} {F : List Ent → R D} {m : M (List D)} (h : Wp m r fun ds r1 => ds.length = n ∧ (ordL ix ds).length = np ∧ WpF F (valsOf (ordL ix ds)) fun d _ => Q d r1) : Wp (callKw np n ix F m) r Q := wp_B (h.imp fun ds r1 ⟨h1, h2, h3⟩ => by
  unfold Wp WpF at *
  simp only [h1, h2, and_self, decide_true, if_true]
  cases e : F (valsOf (ordL ix ds)) with
  | ok a o => rw [e] at h3; exact h3
  | exc c p o => rw [e] at h3; exact h3
  | bad => rw [e] at h3; exact h3)
theorem wp_callP {np : Nat} {v : Str} {F : List Ent → R D} {m : M (List D)} (h0 : r[i]? = some (.val (.dfn v))) (h : Wp m r fun ds r1 => ds.length = np ∧ WpF F (valsOf ds) fun d _ => Q d r1) : Wp (callP i v np F m) r Q := by
  refine wp_B (wp_of (a := ()) (r' := r) (by unfold isDef; rw [h0]; simp) ?_)
  exact wp_callD h
theorem wp_late {m : M (List Arg)} {Q : List Arg → List Ent → Prop} (hc : ∃ k ds, r[j]? = some (.cel k ds)) (h : Wp m r fun as r1 => Q (.late j :: as) r1) : Wp (aLate j m) r Q := by
  obtain ⟨k, ds, hc⟩ := hc
  exact wp_B (wp_of (a := ()) (r' := r) (by unfold hasS; rw [hc]) (wp_B h))
theorem wp_aVal {m : M (List Arg)} {Q : List Arg → List Ent → Prop} (h : Wp a r fun d r1 => Wp m r1 fun as r2 => Q (.val d :: as) r2) : Wp (aVal a m) r Q := wp_B (h.imp fun _ _ h => wp_B h)
theorem wp_callI {np n : Nat} {T : List Nat} {F : List Ent → R D} {m : M (List Arg)} (h : Wp m r fun as r1 => ∃ pre j post k ds, splitA as = some (pre, j, post) ∧ (as.length = np ∧ pre.length = n ∧ j ∈ T) ∧ r1[j]? = some (.cel k ds) ∧ WpF F (ioArgs pre ds post) fun d o => ∃ es, o = [.cel .io es] ∧ Q d (r1.set j (.cel k es))) : Wp (callI np n T F m) r Q :=
  wp_B (h.imp fun as r1 ⟨pre, j, post, k, ds, h1, h2, h3, h4⟩ => by
    unfold WpF at h4
    unfold Wp
    rw [h1]
    simp only
    rw [if_pos (decide_eq_true h2), h3]
    simp only
    cases e : F (ioArgs pre ds post) with
    | ok a o => rw [e] at h4; obtain ⟨es, rfl, q⟩ := h4; exact q
    | exc c p o => rw [e] at h4; exact h4.elim
    | bad => rw [e] at h4; exact h4.elim)
/-- a list of one's own, read -/
theorem wp_lend {α : Type} {T : List Nat} {ok : α → Bool} {m : M α} {Q : α → List Ent → Prop} {k : CK} {ds : List D} (h0 : r[j]? = some (.cel k ds)) (h : Wp m (r.set j (.val (.lst ds))) fun a r1 => (ok a && okT T r1) = true ∧ Q a (r1.set j (.cel k ds))) : Wp (lend T j ok m) r Q := by
  unfold Wp at *
  unfold lend
  rw [h0]
  simp only
  cases e : m (r.set j (.val (.lst ds))) with
  | ok a o => rw [e] at h; simp only [h.1, if_true]; exact h.2
  | exc c p o => rw [e] at h; exact h.elim
  | bad => rw [e] at h; exact h.elim
theorem wp_frz {α : Type} {m : M α} {Q : α → List Ent → Prop} {ds : List D} (h0 : r[j]? = some (.cel .own ds)) (h : Wp m (r.set j (.val (.lst ds))) Q) : Wp (frz j m) r Q := by
  unfold Wp at *
  unfold frz
  rw [h0]
  exact h
/-- a def -/
theorem wp_def {n : Nat} {b : M Fl} {es : List Ent} {Q : D → List Ent → Prop} (h : Wp b (es ++ List.replicate (n - es.length) .no) fun fl _ => (fl = .nx ∧ Q .non []) ∨ ∃ d, fl = .rt d ∧ Q d []) : WpF (defF none false n b) es Q := by
  unfold Wp at h
  unfold WpF defF
  cases e : b (es ++ List.replicate (n - es.length) .no) with
  | ok fl r => rw [e] at h; rcases h with ⟨rfl, q⟩ | ⟨d, rfl, q⟩ <;> exact q
  | exc c p r => rw [e] at h; exact h
  | bad => rw [e] at h; exact h
theorem wp_defL {n : Nat} {b : M Fl} {es : List Ent} {Q : D → List Ent → Prop} (h : Wp b (es ++ List.replicate (n - es.length) .no) fun fl _ => ∃ ds, fl = .rtL ds ∧ Q (.lst ds) []) : WpF (defF none true n b) es Q := by
  unfold Wp at h
  unfold WpF defF
  cases e : b (es ++ List.replicate (n - es.length) .no) with
  | ok fl r => rw [e] at h; obtain ⟨d, rfl, q⟩ := h; exact q
  | exc c p r => rw [e] at h; exact h
  | bad => rw [e] at h; exact h
theorem wp_defI {n i : Nat} {b : M Fl} {es : List Ent} {Q : D → List Ent → Prop} (h : Wp b (es ++ List.replicate (n - es.length) .no) fun fl r => ∃ ds, r[i]? = some (.cel .io ds) ∧ ((fl = .nx ∧ Q .non [.cel .io ds]) ∨ ∃ d, fl = .rt d ∧ Q d [.cel .io ds])) : WpF (defF (some i) false n b) es Q := by
  unfold Wp at h
  unfold WpF defF
  cases e : b (es ++ List.replicate (n - es.length) .no) with
  | ok fl r =>
    rw [e] at h
    obtain ⟨ds, h1, h⟩ := h
    simp only [outs, h1]
    rcases h with ⟨rfl, q⟩ | ⟨d, rfl, q⟩ <;> exact q
  | exc c p r => rw [e] at h; exact h.elim
  | bad => rw [e] at h; exact h.elim
/-- a comprehension that changes nothing: p what is let, f what is made -/
theorem wp_compD {vs : List Nat} {g : D → M Unit} {t : M Bool} {e : M D} {r0 : List Ent} (p : D → Bool) (f : D → D) : ∀ (ds acc : List D) (Q : List D → List Ent → Prop),
    (∀ d ∈ ds, Wp (g d) r0 fun _ r1 => Wp t r1 fun k r2 => k = p d ∧ (k = true → Wp e r2 fun y r3 => y = f d ∧ wipeE r3 vs = r0) ∧ (k = false → wipeE r2 vs = r0)) → acc.length + ds.length ≤ most → Q (acc ++ (ds.filter p).map f) r0 → Wp (compD vs g t e ds acc) r0 Q
  | [], acc, Q, _, _, q => by
    rw [List.filter_nil, List.map_nil, List.append_nil] at q
    exact q
  | d :: ds, acc, Q, h, hl, q => by
    have h1 := h d (List.mem_cons_self ..)
    have hl' : acc.length + ds.length + 1 ≤ most := by rw [List.length_cons] at hl; omega
    have nx : ∀ {α : Type} {m : M α} {r : List Ent} {Q : α → List Ent → Prop}, Wp m r Q → Wp (noX m) r Q := fun {α m r Q} h => by
      unfold Wp at *
      unfold noX
      cases e : m r with
      | ok a o => rw [e] at h; exact h
      | exc c p o => rw [e] at h; exact h.elim
      | bad => rw [e] at h; exact h.elim
    refine wp_B (nx (h1.imp fun _ r1 h2 => wp_B (nx (h2.imp fun k r2 ⟨h3, h4, h5⟩ => ?_))))
    rw [List.filter_cons] at q
    cases k with
    | true =>
      refine wp_B (nx ((h4 rfl).imp fun y r3 ⟨h6, h7⟩ => ?_))
      rw [← h3] at q
      simp only [if_true, List.map_cons] at q
      have h8 : decide (acc.length < most) = true := decide_eq_true (by omega)
      show Wp (fun r => if decide (acc.length < most) then compD vs g t e ds (acc ++ [y]) (wipeE r vs) else .bad) r3 Q
      unfold Wp
      simp only [h8, if_true, h7]
      have := wp_compD p f ds (acc ++ [f d]) Q (fun d hd => h d (List.mem_cons_of_mem _ hd)) (by rw [List.length_append, List.length_singleton]; omega) (by rw [List.append_assoc]; exact q)
      rw [h6]
      exact this
    | false =>
      rw [← h3] at q
      have := wp_compD p f ds acc Q (fun d hd => h d (List.mem_cons_of_mem _ hd)) (by omega) q
      show Wp (fun r => compD vs g t e ds acc (wipeE r vs)) r2 Q
      unfold Wp
      simp only [h5 rfl]
      exact this
theorem wp_comp {vs : List Nat} {it : M (List D)} {g : D → M Unit} {t : M Bool} {e : M D} {Q : List D → List Ent → Prop} (p : D → Bool) (f : D → D)
    (h : Wp it r fun ds r1 => noCel vs r1 = true ∧ ds.length ≤ most ∧ (∀ d ∈ ds, Wp (g d) (wipeE r1 vs) fun _ r2 => Wp t r2 fun k r3 => k = p d ∧ (k = true → Wp e r3 fun y r4 => y = f d ∧ wipeE r4 vs = wipeE r1 vs) ∧ (k = false → wipeE r3 vs = wipeE r1 vs)) ∧ Q ((ds.filter p).map f) (putBack r1 (wipeE r1 vs) vs)) : Wp (lComp vs it g t e) r Q :=
  wp_B (h.imp fun ds r1 ⟨h1, h2, h3, h4⟩ => by
    have := wp_compD (vs := vs) p f ds [] (fun a r2 => Q a (putBack r1 r2 vs)) h3 (by simpa using h2) h4
    unfold Wp at *
    simp only [h1, if_true]
    cases q : compD vs g t e ds [] (wipeE r1 vs) with
    | ok a o => rw [q] at this; exact this
    | exc c p o => rw [q] at this; exact this.elim
    | bad => rw [q] at this; exact this.elim)
end
end FL
namespace FL
open PySem PySem.Spec L2
/-! ### plain facts of the built-ins -/
def hasTy (d : D) : Bool := (tyN d).isSome
def isIntD : D → Bool
  | .int _ => true
  | _ => false
def isBlD : D → Bool
  | .bl _ => true
  | _ => false
def isTupD : D → Bool
  | .tup _ => true
  | _ => false
def isStrD : D → Bool
  | .str _ => true
  | _ => false
def isLstD : D → Bool
  | .lst _ => true
  | _ => false
theorem isB_of {d : D} {n : String} {p : D → Bool} (h : hasTy d = true) (k1 : kitB "NoneType" n = some (p .non)) (k2 : ∀ b, d = .bl b → kitB "bool" n = some (p d)) (k3 : ∀ i, d = .int i → kitB "int" n = some (p d)) (k4 : ∀ x, d = .str x → kitB "str" n = some (p d))
    (k5 : ∀ ds, d = .tup ds → kitB "tuple" n = some (p d)) (k6 : ∀ ds, d = .lst ds → kitB "list" n = some (p d)) (k7 : ∀ ds, d = .dct ds → kitB "dict" n = some (p d)) : isB [d, .opq (.ty n)] = some (.bl (p d)) := by
  unfold isB
  simp only
  cases d with
  | non => show (kitB "NoneType" n).map D.bl = _; rw [k1]; rfl
  | bl b => show (kitB "bool" n).map D.bl = _; rw [k2 b rfl]; rfl
  | int b => show (kitB "int" n).map D.bl = _; rw [k3 b rfl]; rfl
  | str b => show (kitB "str" n).map D.bl = _; rw [k4 b rfl]; rfl
  | tup b => show (kitB "tuple" n).map D.bl = _; rw [k5 b rfl]; rfl
  | lst b => show (kitB "list" n).map D.bl = _; rw [k6 b rfl]; rfl
  | dct b => show (kitB "dict" n).map D.bl = _; rw [k7 b rfl]; rfl
  | scr b => cases h
  | opq b => cases h
  | dfn b => cases h
theorem isB_int {d : D} (h : hasTy d = true) : isB [d, .opq (.ty "int")] = some (.bl (isIntD d || isBlD d)) :=
  isB_of (p := fun d => isIntD d || isBlD d) h (by decide +kernel) (fun _ e => by subst e; exact (show kitB "bool" "int" = some true by decide +kernel)) (fun _ e => by subst e; exact (show kitB "int" "int" = some true by decide +kernel)) (fun _ e => by subst e; exact (show kitB "str" "int" = some false by decide +kernel)) (fun _ e => by subst e; exact (show kitB "tuple" "int" = some false by decide +kernel)) (fun _ e => by subst e; exact (show kitB "list" "int" = some false by decide +kernel)) (fun _ e => by subst e; exact (show kitB "dict" "int" = some false by decide +kernel))
theorem isB_bool {d : D} (h : hasTy d = true) : isB [d, .opq (.ty "bool")] = some (.bl (isBlD d)) :=
  isB_of (p := isBlD) h (by decide +kernel) (fun _ e => by subst e; exact (show kitB "bool" "bool" = some true by decide +kernel)) (fun _ e => by subst e; exact (show kitB "int" "bool" = some false by decide +kernel)) (fun _ e => by subst e; exact (show kitB "str" "bool" = some false by decide +kernel)) (fun _ e => by subst e; exact (show kitB "tuple" "bool" = some false by decide +kernel)) (fun _ e => by subst e; exact (show kitB "list" "bool" = some false by decide +kernel)) (fun _ e => by subst e; exact (show kitB "dict" "bool" = some false by decide +kernel))
theorem isB_tup {d : D} (h : hasTy d = true) : isB [d, .opq (.ty "tuple")] = some (.bl (isTupD d)) :=
  isB_of (p := isTupD) h (by decide +kernel) (fun _ e => by subst e; exact (show kitB "bool" "tuple" = some false by decide +kernel)) (fun _ e => by subst e; exact (show kitB "int" "tuple" = some false by decide +kernel)) (fun _ e => by subst e; exact (show kitB "str" "tuple" = some false by decide +kernel)) (fun _ e => by subst e; exact (show kitB "tuple" "tuple" = some true by decide +kernel)) (fun _ e => by subst e; exact (show kitB "list" "tuple" = some false by decide +kernel)) (fun _ e => by subst e; exact (show kitB "dict" "tuple" = some false by decide +kernel))
theorem isB_str {d : D} (h : hasTy d = true) : isB [d, .opq (.ty "str")] = some (.bl (isStrD d)) :=
  isB_of (p := isStrD) h (by decide +kernel) (fun _ e => by subst e; exact (show kitB "bool" "str" = some false by decide +kernel)) (fun _ e => by subst e; exact (show kitB "int" "str" = some false by decide +kernel)) (fun _ e => by subst e; exact (show kitB "str" "str" = some true by decide +kernel)) (fun _ e => by subst e; exact (show kitB "tuple" "str" = some false by decide +kernel)) (fun _ e => by subst e; exact (show kitB "list" "str" = some false by decide +kernel)) (fun _ e => by subst e; exact (show kitB "dict" "str" = some false by decide +kernel))
theorem eq_int (i j : Int) : eqD (.int i) (.int j) = some (.bl (decide (i = j))) := by
  show some (D.bl (PyData.eqv (.int i) (.int j))) = _
  congr 2
  first | rfl | (simp [PyData.eqv]; done) | skip
theorem ne_int (i j : Int) : neD (.int i) (.int j) = some (.bl (!decide (i = j))) := by
  have := eq_int i j
  unfold eqD at this
  unfold neD
  cases e : eqB (.int i) (.int j) with
  | none => rw [e] at this; cases this
  | some b => rw [e] at this; injection this with this; injection this with this; rw [this]; rfl
theorem eq_bl (i j : Bool) : eqD (.bl i) (.bl j) = some (.bl (i == j)) := by cases i <;> cases j <;> rfl
theorem bits_lt {i : Int} {n : Nat} (h : i.natAbs < 2 ^ n) : bitsOf i ≤ n + 1 := by
  unfold bitsOf
  by_cases z : i.natAbs = 0
  · rw [z]; simp
  · have := (Nat.log2_lt z).mpr h
    omega
theorem mul_ok {i j : Int} (h1 : i.natAbs < 2 ^ 4096) (h2 : j.natAbs < 2 ^ 4096) : mulD (.int i) (.int j) = some (.int (i * j)) := by
  have a := bits_lt h1
  have b := bits_lt h2
  unfold mulD mulOk
  simp only
  rw [if_pos (decide_eq_true (by omega))]
/-- for omega's bounds -/
theorem small (i : Int) (h : i.natAbs < 2 ^ 64) : i.natAbs < 2 ^ 4096 := Nat.lt_of_lt_of_le h (Nat.pow_le_pow_right (by decide) (by decide))
end FL
namespace FL
open PySem PySem.Spec L2
theorem br_t {A B : Prop} (h : A) : (true = true → A) ∧ (true = false → B) := ⟨fun _ => h, fun e => (nomatch e)⟩
theorem br_f {A B : Prop} (h : B) : (false = true → A) ∧ (false = false → B) := ⟨fun e => (nomatch e), fun _ => h⟩
theorem br_t' {A B : Prop} (h : A) : (true = false → B) ∧ (true = true → A) := ⟨fun e => (nomatch e), fun _ => h⟩
theorem br_f' {A B : Prop} (h : B) : (false = false → B) ∧ (false = true → A) := ⟨fun _ => h, fun e => (nomatch e)⟩
theorem br_d {p : Prop} [Decidable p] {A B : Prop} (h1 : p → A) (h2 : ¬p → B) : (decide p = true → A) ∧ (decide p = false → B) := ⟨fun e => h1 (of_decide_eq_true e), fun e => h2 (of_decide_eq_false e)⟩
theorem br_d' {p : Prop} [Decidable p] {A B : Prop} (h1 : ¬p → A) (h2 : p → B) : (decide p = false → A) ∧ (decide p = true → B) := ⟨fun e => h1 (of_decide_eq_false e), fun e => h2 (of_decide_eq_true e)⟩
theorem br_n {k : Bool} {A B : Prop} (h : (k = false → A) ∧ (k = true → B)) : ((!k) = true → A) ∧ ((!k) = false → B) := ⟨fun e => h.1 (by cases k <;> first | rfl | cases e), fun e => h.2 (by cases k <;> first | rfl | cases e)⟩
theorem br_n' {k : Bool} {A B : Prop} (h : (k = true → A) ∧ (k = false → B)) : ((!k) = false → A) ∧ ((!k) = true → B) := ⟨fun e => h.1 (by cases k <;> first | rfl | cases e), fun e => h.2 (by cases k <;> first | rfl | cases e)⟩
theorem fl_nx {A B : Prop} (h : A) : (Fl.nx = .nx → A) ∧ (Fl.nx ≠ .nx → B) := ⟨fun _ => h, fun e => (e rfl).elim⟩
theorem fl_rt {d : D} {A B : Prop} (h : B) : (Fl.rt d = .nx → A) ∧ (Fl.rt d ≠ .nx → B) := ⟨fun e => (nomatch e), fun _ => h⟩
theorem fl_rtL {d : List D} {A B : Prop} (h : B) : (Fl.rtL d = .nx → A) ∧ (Fl.rtL d ≠ .nx → B) := ⟨fun e => (nomatch e), fun _ => h⟩
theorem fl_br {A B : Prop} (h : B) : (Fl.br = .nx → A) ∧ (Fl.br ≠ .nx → B) := ⟨fun e => (nomatch e), fun _ => h⟩
theorem fl_co {A B : Prop} (h : B) : (Fl.co = .nx → A) ∧ (Fl.co ≠ .nx → B) := ⟨fun e => (nomatch e), fun _ => h⟩
theorem en_rt {d : D} {Q : D → List Ent → Prop} (h : Q d []) : (Fl.rt d = .nx ∧ Q .non []) ∨ ∃ e, Fl.rt d = .rt e ∧ Q e [] := .inr ⟨d, rfl, h⟩
theorem en_nx {Q : D → List Ent → Prop} (h : Q .non []) : (Fl.nx = .nx ∧ Q .non []) ∨ ∃ e, Fl.nx = .rt e ∧ Q e [] := .inl ⟨rfl, h⟩
theorem en_rtL {d : List D} {Q : D → List Ent → Prop} (h : Q (.lst d) []) : ∃ ds, Fl.rtL d = .rtL ds ∧ Q (.lst ds) [] := ⟨d, rfl, h⟩
theorem en_rtI {i : Nat} {r : List Ent} {ds : List D} {d : D} {Q : D → List Ent → Prop} (e : r[i]? = some (.cel .io ds)) (h : Q d [.cel .io ds]) : ∃ ds, r[i]? = some (.cel .io ds) ∧ ((Fl.rt d = .nx ∧ Q .non [.cel .io ds]) ∨ ∃ e, Fl.rt d = .rt e ∧ Q e [.cel .io ds]) := ⟨ds, e, .inr ⟨d, rfl, h⟩⟩
theorem it_nx {A B : Prop} {C : D → Prop} {E : List D → Prop} (h : A) : (Fl.nx = .nx ∨ Fl.nx = .co → A) ∧ (Fl.nx = .br → B) ∧ (∀ d, Fl.nx = .rt d → C d) ∧ ∀ ds, Fl.nx = .rtL ds → E ds := ⟨fun _ => h, fun e => (nomatch e), fun _ e => (nomatch e), fun _ e => (nomatch e)⟩
theorem it_co {A B : Prop} {C : D → Prop} {E : List D → Prop} (h : A) : (Fl.co = .nx ∨ Fl.co = .co → A) ∧ (Fl.co = .br → B) ∧ (∀ d, Fl.co = .rt d → C d) ∧ ∀ ds, Fl.co = .rtL ds → E ds := ⟨fun _ => h, fun e => (nomatch e), fun _ e => (nomatch e), fun _ e => (nomatch e)⟩
theorem it_br {A B : Prop} {C : D → Prop} {E : List D → Prop} (h : B) : (Fl.br = .nx ∨ Fl.br = .co → A) ∧ (Fl.br = .br → B) ∧ (∀ d, Fl.br = .rt d → C d) ∧ ∀ ds, Fl.br = .rtL ds → E ds := ⟨fun e => e.elim (fun z => (nomatch z)) (fun z => (nomatch z)), fun _ => h, fun _ e => (nomatch e), fun _ e => (nomatch e)⟩
theorem it_rt {d : D} {A B : Prop} {C : D → Prop} {E : List D → Prop} (h : C d) : (Fl.rt d = .nx ∨ Fl.rt d = .co → A) ∧ (Fl.rt d = .br → B) ∧ (∀ e, Fl.rt d = .rt e → C e) ∧ ∀ ds, Fl.rt d = .rtL ds → E ds := ⟨fun e => e.elim (fun z => (nomatch z)) (fun z => (nomatch z)), fun e => (nomatch e), fun _ e => by cases e; exact h, fun _ e => (nomatch e)⟩
theorem ex_bl {k : Bool} {P : Bool → Prop} (h : P k) : ∃ j, D.bl k = .bl j ∧ P j := ⟨k, rfl, h⟩
theorem ex_int {k : Int} {P : Int → Prop} (h : P k) : ∃ j, D.int k = .int j ∧ P j := ⟨k, rfl, h⟩
end FL
namespace FL
theorem ex_so {α : Type} {o : Option α} {k : α} {P : α → Prop} (e : o = some k) (q : P k) : ∃ j, o = some j ∧ P j := ⟨k, e, q⟩
theorem ex_sb {o : Option D} {k : Bool} {P : Bool → Prop} (e : o = some (.bl k)) (q : P k) : ∃ j, o = some (.bl j) ∧ P j := ⟨k, e, q⟩
theorem ex_sub {o : Option Ent} {k : CK} {ds es : List D} {f : List D → Option (List D)} {P : CK → List D → Prop} (e : o = some (.cel k ds)) (e2 : f ds = some es) (q : P k es) : ∃ k ds es, o = some (.cel k ds) ∧ f ds = some es ∧ P k es := ⟨k, ds, es, e, e2, q⟩
theorem ex_app {o : Option Ent} {k : CK} {ds : List D} {P : CK → List D → Prop} (e : o = some (.cel k ds)) (e2 : ds.length < most) (q : P k ds) : ∃ k ds, o = some (.cel k ds) ∧ ds.length < most ∧ P k ds := ⟨k, ds, e, e2, q⟩
theorem ex_p2 {a b : D} {A B : Prop} {P : D → D → Prop} (h1 : A) (h2 : B) (q : P a b) : ∃ d e, [a, b] = [d, e] ∧ A ∧ B ∧ P d e := ⟨a, b, rfl, h1, h2, q⟩
theorem ex_p3 {a b c : D} {A B C : Prop} {P : D → D → D → Prop} (h1 : A) (h2 : B) (h3 : C) (q : P a b c) : ∃ d e g, [a, b, c] = [d, e, g] ∧ A ∧ B ∧ C ∧ P d e g := ⟨a, b, c, rfl, h1, h2, h3, q⟩
theorem ex_call {pre post : List D} {j np n : Nat} {T : List Nat} {as : List Arg} {o : Option Ent} {k : CK} {ds : List D} {P : List D → Nat → List D → CK → List D → Prop} (h1 : splitA as = some (pre, j, post)) (h2 : as.length = np ∧ pre.length = n ∧ j ∈ T) (h3 : o = some (.cel k ds)) (q : P pre j post k ds) : True := trivial
end FL
namespace FL
open PySem PySem.Spec L2
theorem mod_ok {i j : Int} (h : 0 < j) : modD (.int i) (.int j) = some (.int (i % j)) := by
  unfold modD
  simp only
  rw [if_pos (decide_eq_true h)]
theorem div_ok {i j : Int} (h : 0 < j) (h2 : j.natAbs < 2 ^ 4096) : divD (.int i) (.int j) = some (.int (i / j)) := by
  have a := bits_lt h2
  unfold divD divOk
  simp only
  rw [if_pos (decide_eq_true ⟨h, by omega⟩)]
theorem dm_ok {i j : Int} (h : 0 < j) (h2 : j < 1073741824) : dmB [.int i, .int j] = some (.tup [.int (i / j), .int (i % j)]) := by
  unfold dmB
  simp only
  rw [if_pos (decide_eq_true ⟨h, h2⟩)]
end FL
namespace FL
open PySem PySem.Spec L2
theorem wp_lend' {α : Type} {T : List Nat} {ok : α → Bool} {m : M α} {r : List Ent} {Q : α → List Ent → Prop} {j : Nat} {k : CK} {ds : List D} (h0 : r[j]? = some (.cel k ds)) (h : Wp m (r.set j (.val (.lst ds))) fun a r1 => r1 = r.set j (.val (.lst ds)) ∧ (ok a && okT T r1) = true ∧ Q a r) : Wp (lend T j ok m) r Q := by
  refine wp_lend h0 (h.imp fun a r1 ⟨e, h1, h2⟩ => ⟨h1, ?_⟩)
  rw [e, List.set_set]
  have : r.set j (.cel k ds) = r := by
    apply List.ext_getElem?
    intro i
    rw [List.getElem?_set]
    split
    · rename_i hij
      subst hij
      rw [h0, if_pos (List.getElem?_eq_some_iff.mp h0).1]
    · rfl
  rw [this]
  exact h2
end FL
namespace FL
open PySem PySem.Spec L2
theorem wp_forc {g : D → M Unit} {b : M Fl} {d : D} {ds : List D} {r : List Ent} {Q : Fl → List Ent → Prop} (h : Wp (g d) r fun _ r1 => Wp b r1 fun fl r2 => (fl = .nx ∨ fl = .co → Wp (forD g b ds) r2 Q) ∧ (fl = .br → Q .nx r2) ∧ (∀ d, fl = .rt d → Q (.rt d) r2) ∧ ∀ ds, fl = .rtL ds → Q (.rtL ds) r2) : Wp (forD g b (d :: ds)) r Q :=
  wp_B (h.imp fun _ r1 h1 => wp_B (h1.imp fun fl r2 ⟨h2, h3, h4, h5⟩ => by
    cases fl with
    | nx => exact h2 (.inl rfl)
    | co => exact h2 (.inr rfl)
    | br => exact h3 rfl
    | rt d => exact h4 d rfl
    | rtL ds => exact h5 ds rfl))
theorem wp_forn {g : D → M Unit} {b : M Fl} {r : List Ent} {Q : Fl → List Ent → Prop} (h : Q .nx r) : Wp (forD g b []) r Q := h
theorem ix_nat {ds : List D} {i : Int} {x : D} (h0 : 0 ≤ i) (h : ds[i.toNat]? = some x) : ixD (.tup ds) (.int i) = some x := by
  have := atI_nat h
  rw [Int.toNat_of_nonneg h0] at this
  exact this
theorem ix_natL {ds : List D} {i : Int} {x : D} (h0 : 0 ≤ i) (h : ds[i.toNat]? = some x) : ixD (.lst ds) (.int i) = some x := by
  have := atI_nat h
  rw [Int.toNat_of_nonneg h0] at this
  exact this
theorem set_nat {ds : List D} {d : D} {i : Int} (h0 : 0 ≤ i) (h : i.toNat < ds.length) : setIx d (.int i) ds = some (ds.set i.toNat d) := by
  show (L2.ixN ds.length i).map _ = _
  unfold L2.ixN
  rw [if_pos h0, if_pos (by omega)]
  rfl
end FL
namespace FL
open PySem PySem.Spec L2
theorem wp_forN {g : D → M Unit} {b : M Fl} {Q : Fl → List Ent → Prop} (I : List D → List Ent → Prop) (step : ∀ d ds r, I (d :: ds) r → Wp (g d) r fun _ r1 => Wp b r1 fun fl r2 => (fl = .nx ∨ fl = .co) ∧ I ds r2) (ds : List D) (r : List Ent) (h : I ds r)
    (fin : ∀ r, I [] r → Q .nx r) : Wp (forD g b ds) r Q :=
  wp_forD I (fun d ds r h => (step d ds r h).imp fun _ r1 h1 => h1.imp fun fl r2 ⟨h2, h3⟩ => by
    rcases h2 with rfl | rfl
    · exact it_nx h3
    · exact it_co h3) fin ds r h
theorem in_nx {A : Prop} (h : A) : (Fl.nx = .nx ∨ Fl.nx = .co) ∧ A := ⟨.inl rfl, h⟩
theorem in_co {A : Prop} (h : A) : (Fl.co = .nx ∨ Fl.co = .co) ∧ A := ⟨.inr rfl, h⟩
end FL
namespace FL
open PySem PySem.Spec L2
theorem str_ok {i : Int} (h : i.natAbs < 2 ^ 64) : strB [.int i] = some (.str (toString i)) := by
  have a := bits_lt h
  unfold bitsOf at a
  unfold strB
  simp only
  rw [if_pos (decide_eq_true (by omega))]
theorem mul_tup {a : List D} {k : Int} (h : a ≠ []) (h1 : 2 ≤ k) (h2 : k ≤ 1000) (h3 : a.length ≤ 1000) : mulD (.tup a) (.int k) = some (.tup (timesL a k.toNat)) := by
  unfold mulD
  simp only
  rw [if_neg (by omega), if_pos (decide_eq_true ⟨h, h1, h2, h3⟩)]
theorem times_mem {a : List D} {k : Nat} {x : D} (h : x ∈ timesL a k) : x ∈ a := by
  unfold timesL at h
  obtain ⟨l, h1, h2⟩ := List.mem_flatten.mp h
  rw [(List.mem_replicate.mp h1).2] at h2
  exact h2
end FL
namespace FL
open PySem PySem.Spec L2
section
variable {X : Cx} {W : WX} {T : List Nat} {K : PySem.W.Frag} {x : Str} {e : Expr} {es : List Expr} {p pos : Pos}
/-! ### what is never reached -/
def sBad : M Fl := fun _ => .bad
def xBad : M D := fun _ => .bad
theorem ss_bad {st : Stmt} : SS X W T st sBad := ⟨⟨fun _ _ _ => False, ⟨fun _ _ _ _ _ _ h => h.elim⟩, fun _ _ _ p => p⟩⟩
theorem se_bad {e : Expr} : SE X W T e xBad := ⟨⟨fun _ _ _ => False, ⟨fun _ _ _ _ _ _ h => h.elim⟩, fun _ _ _ p => p⟩⟩
/-- a def of which nothing is promised -/
def fBad : List Ent → R D := fun _ => .bad
theorem bad_ok {P : Program} {w : World} {K : PySem.W.Frag} {mg : Str → Option Value} {base : Heap} {x : Str} {st : Stmt} {ps : List Str} {k : Nat} {io : Option Nat} {fr : Bool} (hd : ∃ f fd, mg x = some (.ref f) ∧ Fun K x x st f fd ∧ Binds K fd ps []) : DefOk P w K mg base x st ps k io fr fBad := by
  obtain ⟨f, fd, hm, Fn, hb⟩ := hd
  refine ⟨f, fd, hm, Fn.kp, Fn, ⟨fun vs H Q E h => h.1, fun A outer s H args us vs Q E _ _ _ _ h => ?_⟩, hb⟩
  obtain ⟨_, z, _, _, _, _, hp⟩ := h
  exact (show False from hp).elim
/-! ### isinstance of several types -/
def kitAnyB (m : String) : List String → Option Bool
  | [] => some false
  | n :: ns => match kitB m n with
    | some true => some true
    | some false => kitAnyB m ns
    | none => none
def isTB (ns : List String) (d : D) : Option D := match tyN d with
  | some m => (kitAnyB m ns).map .bl
  | none => none
def xIsT (ns : List String) (m : M D) : M D := mB m fun d => mO (isTB ns d)
theorem kitAny_of {K : PySem.W.Frag} {m : String} : ∀ {ns : List String} {b : Bool}, kitAnyB m ns = some b → PySem.W.kitAny K (.type m) (ns.map Value.type) = some b
  | [], b, h => by cases h; rfl
  | n :: ns, b, h => by
    unfold kitAnyB at h
    cases q : kitB m n with
    | none => rw [q] at h; cases h
    | some c =>
      rw [q] at h
      cases c with
      | true => cases h; exact kitAny_cons (kit_ty q) (fun z => nomatch z) (fun _ => rfl)
      | false => exact kitAny_cons (kit_ty q) (fun _ => kitAny_of h) (fun z => nomatch z)
theorem rep_tys {F : Hp} : ∀ {ns : List String} {vs : List V}, RepL K F vs (ns.map fun n => D.opq (.ty n)) → vs = ns.map V.ty
  | [], _, .nil => rfl
  | n :: ns, _, .cons h r => by
    cases h
    rw [rep_tys r]
    rfl
theorem cls_tys : ∀ ns : List String, Paired ClsV (ns.map V.ty) (ns.map Value.type)
  | [] => .nil
  | n :: ns => .cons (.ty n) (cls_tys ns)
theorem se_isT (ns : List String) {tes : List Expr} {x1 : _} {tp : Pos} {f : M D} (hm : X.mg "isinstance" = none) (ha : SE X W T e f) (ht : SD X W T tes (mP (ns.map fun n => D.opq (.ty n)))) (hl : decide (ns.length ≤ most) = true) (hv : bootBuiltins "isinstance" = some (.builtin "isinstance")) (hg : Gl X "isinstance" := by rfl)
    (h1 : starEach (e :: [Expr.Tuple tes x1 tp]) X.env = (false, eval e X.env) :: starEach [Expr.Tuple tes x1 tp] X.env := by rfl) (h2 : starEach (Expr.Tuple tes x1 tp :: []) X.env = (false, eval (Expr.Tuple tes x1 tp) X.env) :: starEach [] X.env := by rfl)
    (hpl : (backTo pos (starEach [Expr.Tuple tes x1 tp] X.env)).any (·.1) = false := by rfl) : SE X W T (.Call (.Name "isinstance" p) [e, .Tuple tes x1 tp] [] pos) (xIsT ns f) := by
  obtain ⟨te, pe, ev⟩ := ha.ex
  obtain ⟨tt, pt, et⟩ := ht.ex
  refine ⟨_, pe_callB call_isiT hg hm hv (pa_cons pe (pa_cons (pe_tup pt) pa_nil h2) h1) (by decide) (by decide) h1 hpl, fun x Q s p => ?_⟩
  refine ev.bind s p fun d y f1 s1 e1 v hv p1 => ?_
  show tt x.s y.H _
  rw [← e1]
  refine et y _ s1 ?_
  intro y2 hy2 f2 s2 e2 vs hvs
  have evs := rep_tys hvs
  subst evs
  refine ⟨by rw [List.length_map]; exact of_most hl, fun q hq => ?_⟩
  obtain ⟨g1, g2⟩ := ext_tup (ds := ns.map fun n => D.opq (.ty n)) s2 hq hvs
  cases c : isTB ns d with
  | none => rw [c] at p1; exact p1.elim
  | some z =>
    rw [c] at p1
    unfold isTB at c
    split at c
    · rename_i m hm
      cases c2 : kitAnyB m ns with
      | none => rw [c2] at c; cases c
      | some b =>
        rw [c2] at c
        cases c
        refine ⟨v, q, ns.map V.ty, .type m, ns.map Value.type, b, rfl, upd_same, cls_tys ns, tyX_of (g1.rst s2).sub ((hv.mono f2.ff).mono g1.ff) hm, kitAny_of c2, ?_⟩
        exact p1 _ (g1.r.trans hy2) (f2.trans (g1.fr T)) (g1.rst s2) (g1.s.trans (e2.trans e1)) _ (.bl b)
    · cases c
end
end FL
namespace FL
open PySem PySem.Spec L2
/-! ### fractions -/
def fr (q : Rat) : D := .tup [.int q.num, .int q.den]
def fracB : D → Bool
  | .tup [.int n, .int m] => decide (0 < m) && decide (Nat.gcd n.natAbs m.natAbs = 1)
  | _ => false
theorem fracB_fr (q : Rat) : fracB (fr q) = true := by
  show (decide (0 < (q.den : Int)) && decide (Nat.gcd q.num.natAbs (q.den : Int).natAbs = 1)) = true
  rw [decide_eq_true (show 0 < (q.den : Int) from by have := q.den_pos; omega), Int.natAbs_natCast, decide_eq_true (show Nat.gcd q.num.natAbs q.den = 1 from q.reduced)]
  rfl
theorem fr_of {d : D} (h : fracB d = true) : ∃ q, d = fr q := by
  unfold fracB at h
  split at h
  · rename_i n m
    simp only [Bool.and_eq_true, decide_eq_true_eq] at h
    obtain ⟨h1, h2⟩ := h
    refine ⟨⟨n, m.toNat, by omega, ?_⟩, ?_⟩
    · rw [Nat.Coprime, ← h2]
      congr 1
      omega
    · unfold fr
      show D.tup [.int n, .int m] = .tup [.int n, .int (m.toNat : Int)]
      rw [Int.toNat_of_nonneg (by omega)]
  · cases h
/-- what is shortened -/
theorem part_fr {n m : Int} (h : 0 < m) : D.tup [.int (n / (Nat.gcd n.natAbs m.natAbs : Nat)), .int (m / (Nat.gcd n.natAbs m.natAbs : Nat))] = fr (Rat.divInt n m) := by
  unfold fr
  rw [Rat.num_divInt, Rat.den_divInt, if_neg (by omega), Int.sign_eq_one_of_pos h, Int.one_mul]
  have e : m.gcd n = Nat.gcd n.natAbs m.natAbs := by unfold Int.gcd; exact Nat.gcd_comm ..
  rw [e]
  congr 3
  have : (m.natAbs : Int) = m := by omega
  rw [← this, Int.natAbs_natCast, Int.natCast_ediv]
theorem den_le {n m : Int} (h : 0 < m) : ((Rat.divInt n m).den : Int) ≤ m := by
  rw [Rat.den_divInt, if_neg (by omega)]
  have := Nat.div_le_self m.natAbs (m.gcd n)
  omega
theorem add_fr (a b : Rat) : Rat.divInt (a.num * b.den + b.num * a.den) (a.den * b.den) = a + b := by
  rw [Rat.add_def', ← Rat.divInt_ofNat, Int.natCast_mul]
theorem sub_fr (a b : Rat) : Rat.divInt (a.num * b.den - b.num * a.den) (a.den * b.den) = a - b := by
  rw [Rat.sub_def', ← Rat.divInt_ofNat, Int.natCast_mul]
theorem mul_fr (a b : Rat) : Rat.divInt (a.num * b.num) (a.den * b.den) = a * b := by
  rw [Rat.mul_def', ← Rat.divInt_ofNat, Int.natCast_mul]
/-- Euclid's steps: room for 2 k + 1 where the second is below 2 ^ k -/
theorem half_mod {a b : Int} (h0 : 0 ≤ a) (h : 0 < b) (hb : b ≤ a) : 2 * (a % b) ≤ a := by
  have h1 := Int.emod_lt_of_pos a h
  have h2 := Int.emod_nonneg a (show b ≠ 0 by omega)
  have h3 := Int.mul_ediv_add_emod a b
  have h4 : 1 ≤ a / b := by
    have := Int.ediv_le_ediv h hb
    rw [Int.ediv_self (by omega)] at this
    exact this
  have h5 : b * 1 ≤ b * (a / b) := Int.mul_le_mul_of_nonneg_left h4 (by omega)
  omega
end FL
namespace FL
def Btw (lo hi : Int) (q : Rat) : Prop := lo * q.den ≤ q.num ∧ q.num ≤ hi * q.den
theorem cross {n m : Int} (h : 0 < m) : (Rat.divInt n m).num * m = n * (Rat.divInt n m).den := by
  have h1 := Rat.num_divInt_den (Rat.divInt n m)
  have d := (Rat.divInt n m).den_pos
  exact (Rat.divInt_eq_divInt_iff (by omega) (by omega)).mp h1
theorem btw_div {lo hi n m : Int} (h : 0 < m) (h1 : lo * m ≤ n) (h2 : n ≤ hi * m) : Btw lo hi (Rat.divInt n m) := by
  have c := cross (n := n) h
  have d := (Rat.divInt n m).den_pos
  unfold Btw
  generalize (Rat.divInt n m).num = a at *
  generalize (Rat.divInt n m).den = b at *
  have d' : (0 : Int) < b := by omega
  constructor
  · have : lo * b * m ≤ a * m := by
      rw [c, show lo * b * m = lo * m * b by rw [Int.mul_assoc, Int.mul_comm (b : Int) m, ← Int.mul_assoc]]
      exact Int.mul_le_mul_of_nonneg_right h1 (by omega)
    exact Int.le_of_mul_le_mul_right this h
  · have : a * m ≤ hi * b * m := by
      rw [c, show hi * b * m = hi * m * b by rw [Int.mul_assoc, Int.mul_comm (b : Int) m, ← Int.mul_assoc]]
      exact Int.mul_le_mul_of_nonneg_right h2 (by omega)
    exact Int.le_of_mul_le_mul_right this h
theorem btw_rat {lo hi : Int} {q : Rat} : Btw lo hi q ↔ ((lo : Rat) ≤ q ∧ q ≤ (hi : Rat)) := by
  unfold Btw
  rw [Rat.le_iff, Rat.le_iff]
  show _ ↔ (lo * (q.den : Int) ≤ q.num * ((1 : Nat) : Int) ∧ q.num * ((1 : Nat) : Int) ≤ hi * (q.den : Int))
  omega
/-- a share of the way between two -/
theorem btw_mix {lo hi : Int} {a b t : Rat} (ha : Btw lo hi a) (hb : Btw lo hi b) (t0 : 0 ≤ t) (t1 : t ≤ 1) : Btw lo hi (a + t * (b - a)) := by
  rw [btw_rat] at *
  have u0 : 0 ≤ 1 - t := by grind
  have h1 := Rat.mul_le_mul_of_nonneg_left ha.1 u0
  have h2 := Rat.mul_le_mul_of_nonneg_left hb.1 t0
  have h3 := Rat.mul_le_mul_of_nonneg_left ha.2 u0
  have h4 := Rat.mul_le_mul_of_nonneg_left hb.2 t0
  constructor <;> grind
end FL
namespace FL
open PySem PySem.Spec L2
theorem wp_noX {α : Type} {m : M α} {r : List Ent} {Q : α → List Ent → Prop} (h : Wp m r Q) : Wp (noX m) r Q := by
  unfold Wp at *
  unfold noX
  cases e : m r with
  | ok a o => rw [e] at h; exact h
  | exc c p o => rw [e] at h; exact h.elim
  | bad => rw [e] at h; exact h.elim
/-- a comprehension, by an invariant: what is left, what is made, the state -/
theorem wp_compJD {vs : List Nat} {g : D → M Unit} {t : M Bool} {e : M D} (J : List D → List D → List Ent → Prop) (step : ∀ d ds acc r, J (d :: ds) acc r → Wp (g d) r fun _ r1 => Wp t r1 fun k r2 => (k = true → Wp e r2 fun y r3 => J ds (acc ++ [y]) (wipeE r3 vs)) ∧ (k = false → J ds acc (wipeE r2 vs))) :
    ∀ (ds acc : List D) (r : List Ent) (Q : List D → List Ent → Prop), J ds acc r → acc.length + ds.length ≤ most → (∀ acc r, J [] acc r → Q acc r) → Wp (compD vs g t e ds acc) r Q
  | [], acc, r, Q, h, _, q => q acc r h
  | d :: ds, acc, r, Q, h, hl, q => by
    rw [List.length_cons] at hl
    refine wp_B (wp_noX ((step d ds acc r h).imp fun _ r1 h2 => wp_B (wp_noX (h2.imp fun k r2 ⟨h4, h5⟩ => ?_))))
    cases k with
    | true =>
      refine wp_B (wp_noX ((h4 rfl).imp fun y r3 h6 => ?_))
      have h8 : decide (acc.length < most) = true := decide_eq_true (by omega)
      show Wp (fun r => if decide (acc.length < most) then compD vs g t e ds (acc ++ [y]) (wipeE r vs) else .bad) r3 Q
      unfold Wp
      simp only [h8, if_true]
      exact wp_compJD J step ds (acc ++ [y]) _ Q h6 (by rw [List.length_append, List.length_singleton]; omega) q
    | false =>
      show Wp (fun r => compD vs g t e ds acc (wipeE r vs)) r2 Q
      unfold Wp
      exact wp_compJD J step ds acc _ Q (h5 rfl) (by omega) q
theorem wp_compJ {vs : List Nat} {it : M (List D)} {g : D → M Unit} {t : M Bool} {e : M D} {r : List Ent} {Q : List D → List Ent → Prop} (J : List D → List D → List Ent → Prop)
    (h : Wp it r fun ds r1 => noCel vs r1 = true ∧ ds.length ≤ most ∧ J ds [] (wipeE r1 vs) ∧ (∀ d ds acc r, J (d :: ds) acc r → Wp (g d) r fun _ r1 => Wp t r1 fun k r2 => (k = true → Wp e r2 fun y r3 => J ds (acc ++ [y]) (wipeE r3 vs)) ∧ (k = false → J ds acc (wipeE r2 vs))) ∧ ∀ acc r2, J [] acc r2 → Q acc (putBack r1 r2 vs)) : Wp (lComp vs it g t e) r Q :=
  wp_B (h.imp fun ds r1 ⟨h1, h2, h3, h4, h5⟩ => by
    have := wp_compJD (vs := vs) (g := g) (t := t) (e := e) J h4 ds [] (wipeE r1 vs) (fun a r2 => Q a (putBack r1 r2 vs)) h3 (by simpa using h2) h5
    unfold Wp at *
    simp only [h1, if_true]
    cases q : compD vs g t e ds [] (wipeE r1 vs) with
    | ok a o => rw [q] at this; exact this
    | exc c p o => rw [q] at this; exact this.elim
    | bad => rw [q] at this; exact this.elim)
end FL
namespace FL
open PySem PySem.Spec L2
section
variable {X : Cx} {W : WX} {T : List Nat}
/-! ### a constant of the text that is a tuple -/
theorem se_ctup {x : Str} {d : D} {pos : Pos} (h : ∃ a, X.mg x = some (.ref a) ∧ ∀ F, Rep X.K F (.ref a) d) (hg : Gl X x := by rfl) (hd : (x == ("__debug__" : Str)) = false := by decide) : SE X W T (.Name x pos) (xC d) := by
  obtain ⟨a, h, k⟩ := h
  exact se_glob h (v := .ref a) rfl (fun _ => k _) hg hd
theorem rep_tup {K : PySem.W.Frag} {a : Addr} {dd : Option Addr} {us : List Value} {n : Nat} {sl : Array (Option Value)} {vs : List V} {ds : List D} (h : K.lookup a = some ⟨.type "tuple", dd, .seq us.toArray n, sl⟩) (hl : us.length ≤ 1000) (hv : Vals vs us) (hr : ∀ F, RepL K F vs ds) (F : Hp) : Rep K F (.ref a) (.tup ds) :=
  .tup (.inr ⟨_, _, _, h, rfl, rfl, Nat.le_trans (by simpa using hl) (by decide), by simpa using hv⟩) (hr F)
theorem vals_cons {v : V} {u : Value} {vs : List V} {us : List Value} (h : RelV v u) (r : Vals vs us) : Vals (v :: vs) (u :: us) := .cons h r
theorem rel_int (i : Int) (t : Tok) : RelV (.int i) (.int i t) := ⟨t, rfl⟩
theorem rel_str (x : Str) (t : Tok) : RelV (.str x) (.str x t) := ⟨t, rfl⟩
end
end FL
namespace FL
open PySem PySem.Spec L2
section
variable {X : Cx} {W : WX} {T : List Nat} {K : PySem.W.Frag}
/-! ### is True, is False -/
def isBD : D → D → Option D
  | .bl a, .bl b => some (.bl (decide (a = b)))
  | _, _ => none
def notBD : D → D → Option D
  | .bl a, .bl b => some (.bl (!decide (a = b)))
  | _, _ => none
theorem opd_isB : OpD K rIsB isBD := by
  intro x v u d e z Q s hv hu q k
  cases d <;> cases e <;> simp [isBD] at q
  subst q
  cases hv
  cases hu
  exact ⟨_, _, rfl, rfl, k x _ (Ext.refl s) (.bl _)⟩
theorem opd_notB : OpD K rNotB notBD := by
  intro x v u d e z Q s hv hu q k
  cases d <;> cases e <;> simp [notBD] at q
  subst q
  cases hv
  cases hu
  exact ⟨_, _, rfl, rfl, k x _ (Ext.refl s) (.bl _)⟩
theorem se_isB {a b : Expr} {pos : Pos} {fa fb : M D} (ha : SE X W T a fa) (hb : SE X W T b fb) : SE X W T (.Compare a [.Is] [b] pos) (x2 isBD fa fb) := se_cmp op_isBl opd_isB ha hb (nomark _)
theorem se_notB {a b : Expr} {pos : Pos} {fa fb : M D} (ha : SE X W T a fa) (hb : SE X W T b fb) : SE X W T (.Compare a [.IsNot] [b] pos) (x2 notBD fa fb) := se_cmp op_notBl opd_notB ha hb (nomark _)
theorem st_isB {a b : Expr} {pos : Pos} {fa fb : M D} (ha : SE X W T a fa) (hb : SE X W T b fb) : ST X W T (.Compare a [.Is] [b] pos) (mT (x2 isBD fa fb)) := st_cmp op_isBl opd_isB ha hb (nomark _)
theorem st_notB {a b : Expr} {pos : Pos} {fa fb : M D} (ha : SE X W T a fa) (hb : SE X W T b fb) : ST X W T (.Compare a [.IsNot] [b] pos) (mT (x2 notBD fa fb)) := st_cmp op_notBl opd_notB ha hb (nomark _)
/-! ### in a row of flat items -/
def flD : D → Option V
  | .non => some .non
  | .bl b => some (.bl b)
  | .int i => some (.int i)
  | .str x => some (.str x)
  | _ => none
def flsD : List D → Option (List V)
  | [] => some []
  | d :: ds => match flD d, flsD ds with
    | some v, some vs => some (v :: vs)
    | _, _ => none
theorem fl_rep {F : Hp} {v u : V} {d : D} (h : Rep K F v d) (q : flD d = some u) : v = u ∧ flatV u = true := by
  cases d <;> simp [flD] at q <;> subst q <;> cases h <;> exact ⟨rfl, rfl⟩
theorem fls_rep {F : Hp} : ∀ {vs us : List V} {ds : List D}, RepL K F vs ds → flsD ds = some us → vs = us ∧ us.all flatV = true
  | _, _, _, .nil, q => by cases q; exact ⟨rfl, rfl⟩
  | _, _, _, .cons (d := d) (ds := ds) h r, q => by
    unfold flsD at q
    cases e1 : flD d with
    | none => rw [e1] at q; cases q
    | some u =>
      cases e2 : flsD ds with
      | none => rw [e1, e2] at q; cases q
      | some us =>
        rw [e1, e2] at q
        cases q
        obtain ⟨a1, a2⟩ := fl_rep h e1
        obtain ⟨b1, b2⟩ := fls_rep r e2
        exact ⟨by rw [a1, b1], by rw [List.all_cons, a2, b2]; rfl⟩
def inSD (neg : Bool) (d e : D) : Option D := match flD d, rowD e with
  | some u, some ds => (flsD ds).map fun us => .bl (if neg then !inV u us else inV u us)
  | _, _ => none
theorem opd_in (neg : Bool) : OpD K (rIn K neg) (inSD neg) := by
  intro x v u d e z Q s hv hu q k
  unfold inSD at q
  cases e1 : flD d with
  | none => rw [e1] at q; cases q
  | some v' =>
    obtain ⟨rfl, f1⟩ := fl_rep hv e1
    rw [e1] at q
    cases e2 : rowD e with
    | none => rw [e2] at q; cases q
    | some ds =>
      rw [e2] at q
      simp only at q
      cases e3 : flsD ds with
      | none => rw [e3] at q; cases q
      | some us =>
        rw [e3] at q
        cases q
        have fin : ∀ {vs : List V} {p : Addr}, RepL K x.F vs ds → (SqL K x.H p vs ∨ SqT K x.H p vs) → u = .ref p → rIn K neg v u x.H Q := fun {vs p} r hs hp => by
          obtain ⟨rfl, f2⟩ := fls_rep r e3
          exact ⟨p, _, hp, hs, f1, f2, k x _ (Ext.refl s) (.bl _)⟩
        cases e <;> try (cases e2; done)
        · cases e2
          cases hu with
          | tup h r => exact fin r (.inr (sameT s.sub h)) rfl
        · cases e2
          cases hu with
          | lst h r => exact fin r (.inl (SqL.of (s.sub _ _ h))) rfl
        · cases e2
          cases hu with
          | scr h r => exact fin r (.inl (s.sub.seq h)) rfl
theorem se_in {a b : Expr} {pos : Pos} {fa fb : M D} (ha : SE X W T a fa) (hb : SE X W T b fb) (hm : behindInMarks .In b = false := by rfl) : SE X W T (.Compare a [.In] [b] pos) (x2 (inSD false) fa fb) := se_cmp op_in_seq (opd_in false) ha hb hm
theorem se_notin {a b : Expr} {pos : Pos} {fa fb : M D} (ha : SE X W T a fa) (hb : SE X W T b fb) (hm : behindInMarks .NotIn b = false := by rfl) : SE X W T (.Compare a [.NotIn] [b] pos) (x2 (inSD true) fa fb) := se_cmp op_notIn_seq (opd_in true) ha hb hm
theorem st_in {a b : Expr} {pos : Pos} {fa fb : M D} (ha : SE X W T a fa) (hb : SE X W T b fb) (hm : behindInMarks .In b = false := by rfl) : ST X W T (.Compare a [.In] [b] pos) (mT (x2 (inSD false) fa fb)) := st_cmp op_in_seq (opd_in false) ha hb hm
theorem st_notin {a b : Expr} {pos : Pos} {fa fb : M D} (ha : SE X W T a fa) (hb : SE X W T b fb) (hm : behindInMarks .NotIn b = false := by rfl) : ST X W T (.Compare a [.NotIn] [b] pos) (mT (x2 (inSD true) fa fb)) := st_cmp op_notIn_seq (opd_in true) ha hb hm
/-! ### found.extend(e) -/
def extC (d : D) (ds : List D) : Option (List D) := match d with
  | .lst es => if decide (ds.length + es.length ≤ most) then some (ds ++ es) else none
  | _ => none
def sExt (j : Nat) (m : M D) : M Fl := mB (hasC j) fun _ => mB m fun d => mB (updc j (extC d)) fun _ => mP .nx
theorem ss_ext (j : Nat) {x : Str} {e : Expr} {f : M D} {p1 apos cpos pos : Pos} (he : SE X W T e f) (hN : X.N[j]? = some x := by rfl) (hv : Vis X.env.scope x := by first | exact Or.inl rfl | exact Or.inr (Or.inl rfl) | exact Or.inr (Or.inr rfl)) (hT : j ∈ T := by decide)
    (hd : (x == ("__debug__" : Str)) = false := by decide) (hc : (x == ("__classdict__" : Str)) = false := by decide)
    (hbase : attributeBase (.Name x p1) "extend" X.env (eval (.Name x p1) X.env) = eval (.Name x p1) X.env := by rfl)
    (hfew : ((backTo cpos (starEach [e] X.env)).all (fun x => !x.1) && (backToKw cpos (keywordEach [] X.env)).all (fun x => x.1.isSome) && decide ([e].length + ([] : List Keyword).length + (if ([] : List Keyword).isEmpty then 0 else 1) < 30)) = true := by rfl)
    (hline : (apos.endLine == cpos.line) = true := by rfl) (hst : starEach [e] X.env = (false, eval e X.env) :: starEach [] X.env := by rfl) (hpl : (backTo cpos (starEach [] X.env)).any (·.1) = false := by rfl)
    (hs : swapsWith (.Call (.Attribute (.Name x p1) "extend" apos) [e] [] cpos) none pos.line X.env = pure false := by rfl) : SS X W T (.Expr (.Call (.Attribute (.Name x p1) "extend" apos) [e] [] cpos) pos) (sExt j f) := by
  obtain ⟨te, pe, ev⟩ := he.ex
  refine ⟨_, ps_expr (pe_bm PySem.F.plainAttrs_list PySem.F.slot_list_extend PySem.F.type_list_extend mt_extend (pe_var (i := j) hN hv hd hc) (pa_cons pe pa_nil hst) hbase hfew hline hst hpl) hs, fun x Dn s p => ?_⟩
  obtain ⟨⟨k, ds, q, us, e0, hs, hq⟩, p1⟩ := hasC_run s p
  refine ⟨_, hs, .inl ⟨rfl, _, SqL.of hq⟩, ?_⟩
  refine ev.bind s p1 fun d y f1 s1 e1 v hv p2 => ?_
  obtain ⟨k2, ds2, es, q2, us2, h1, h2, h3, h4, h5⟩ := updc_run s1 hT p2
  rw [e1, hs] at h1
  cases h1
  unfold extC at h4
  cases d <;> try (cases h4; done)
  rename_i zs
  simp only at h4
  by_cases c : decide (ds2.length + zs.length ≤ most) = true
  · rw [if_pos c] at h4
    cases h4
    cases hv with
    | lst hz rz =>
      obtain ⟨a, b, g⟩ := h5 (us2 ++ _) (h3.app rz)
      refine ⟨q, _, us2, _, rfl, rfl, h2, s1.sub _ _ hz, by rw [h3.length, rz.length]; exact of_most c, ?_⟩
      have := g _ rfl (Fr.refl T _) a
      show Dn.nx x.s _
      rw [← e1]
      exact this
  · rw [if_neg c] at h4
    cases h4
end
end FL
namespace FL
open PySem PySem.Spec L2
section
variable {X : Cx} {W : WX} {T : List Nat} {K : PySem.W.Frag}
/-! ### a dict of constants, an item of it -/
def valD (kvs : List (Key × D)) (k : Key) : Option D := (kvs.find? fun kv => decide (kv.1 = k)).map (·.2)
def ixK : D → D → Option D
  | .dct kvs, .str x => valD kvs (.inr x)
  | _, _ => none
def rDG : R2 := fun x y H Q => ∃ a v, x = .ref a ∧ DGet H a y (some v) ∧ Q v H
theorem valK_rep {F : Hp} : ∀ {kvs : List (Key × V)} {kds : List (Key × D)} {k : Key} {d : D}, RepK K F kvs kds → valD kds k = some d → ∃ v, valV kvs k = some v ∧ Rep K F v d
  | _, _, k, d, .nil, q => by cases q
  | _, _, k, d, .cons (k := j) (v := v) (vs := vs) (d := e) (ds := ds) h r, q => by
    by_cases c : j = k
    · have : valD ((j, e) :: ds) k = some e := by simp [valD, List.find?_cons, c]
      rw [this] at q
      cases q
      exact ⟨v, valV_pos c, h⟩
    · have : valD ((j, e) :: ds) k = valD ds k := by simp [valD, List.find?_cons, c]
      rw [this] at q
      obtain ⟨w, h1, h2⟩ := valK_rep r q
      exact ⟨w, by rw [valV_neg c]; exact h1, h2⟩
theorem opd_ixK : OpD K rDG ixK := by
  intro x v u d e z Q s hv hu q k
  cases d <;> cases e <;> simp [ixK] at q
  cases hu
  cases hv
  rename_i ha r
  obtain ⟨w, h1, h2⟩ := valK_rep r q
  exact ⟨_, w, rfl, by rw [← h1]; exact DGet.k (k := .inr _) (s.sub _ _ ha), k x _ (Ext.refl s) h2⟩
theorem se_ixk {a b : Expr} {pos : Pos} {fa fb : M D} (hu : X.A.units + 64 < cLine) (ha : SE X W T a fa) (hb : SE X W T b fb) (hs : NoSl b := by intro _ _; rfl) : SE X W T (.Subscript a b pos) (x2 ixK fa fb) := by
  obtain ⟨ta, pa, ea⟩ := ha.ex
  obtain ⟨tb, pb, eb⟩ := hb.ex
  exact ⟨_, pe_dget (by omega) pa pb hs, ev_op (ta := ta) (tb := tb) opd_ixK ea eb⟩
/-- a constant -/
def KCon (X : Cx) (e : Expr) (d : D) : Prop := ∃ v, PE X e (tC v) ∧ ∀ F, Rep X.K F v d
theorem kc_str {x : Str} {j pos} : KCon X (.Constant (.str x) j pos) (.str x) := ⟨_, pe_str, fun _ => .str x⟩
theorem kc_int {i : Int} {j pos} : KCon X (.Constant (.int i) j pos) (.int i) := ⟨_, pe_int, fun _ => .int i⟩
theorem kc_cint {x : Str} {i : Int} {pos : Pos} (h : ∃ t, X.mg x = some (.int i t)) (hg : Gl X x := by rfl) (hd : (x == ("__debug__" : Str)) = false := by decide) : KCon X (.Name x pos) (.int i) := by
  obtain ⟨t, h⟩ := h
  exact ⟨.int i, pe_glob hg h ⟨t, rfl⟩ hd, fun _ => .int i⟩
theorem kc_cstr {x y : Str} {pos : Pos} (h : ∃ t, X.mg x = some (.str y t)) (hg : Gl X x := by rfl) (hd : (x == ("__debug__" : Str)) = false := by decide) : KCon X (.Name x pos) (.str y) := by
  obtain ⟨t, h⟩ := h
  exact ⟨.str y, pe_glob hg h ⟨t, rfl⟩ hd, fun _ => .str y⟩
/-- the pairs of a display of constants -/
def KPairs (X : Cx) (pos : Pos) (keys : List (Option Expr)) (values : List Expr) (kds : List (Key × D)) : Prop :=
  ∃ kvs : List (Key × V), PPs X pos keys values (kvs.map fun kv => (tC (kV kv.1), tC kv.2)) ∧ ∀ F, RepK X.K F kvs kds
theorem kp_nil {pos : Pos} : KPairs X pos [] [] [] := ⟨[], pps_nil, fun _ => .nil⟩
theorem kp_cons {pos : Pos} {k v : Expr} {ks : List (Option Expr)} {vs : List Expr} {x : Str} {d : D} {kds : List (Key × D)} (hk : KCon X k (.str x)) (hv : KCon X v d) (hr : KPairs X pos ks vs kds) : KPairs X pos (some k :: ks) (v :: vs) ((.inr x, d) :: kds) := by
  obtain ⟨u, p1, r1⟩ := hk
  obtain ⟨w, p2, r2⟩ := hv
  obtain ⟨kvs, p3, r3⟩ := hr
  have e : u = .str x := by cases r1 (fun _ => none); rfl
  subst e
  exact ⟨(.inr x, w) :: kvs, pps_cons p1 p2 p3, fun F => .cons (r2 F) (r3 F)⟩
theorem tPairs_c {σ : St} : ∀ {kvs : List (Key × V)} {H : Hp} {Q : List (V × V) → Hp → Prop}, Q (kvs.map fun kv => (kV kv.1, kv.2)) H → tPairs (kvs.map fun kv => (tC (kV kv.1), tC kv.2)) σ H Q
  | [], _, _, h => h
  | kv :: kvs, H, Q, h => by
    show tPairs (kvs.map fun kv => (tC (kV kv.1), tC kv.2)) σ H fun ps H3 => Q ((kV kv.1, kv.2) :: ps) H3
    exact tPairs_c h
/-- the keys are told apart -/
def distD : List (Key × D) → Bool
  | [] => true
  | kd :: r => !(r.any fun x => decide (x.1 = kd.1)) && distD r
theorem rep_len {F : Hp} : ∀ {kvs : List (Key × V)} {kds : List (Key × D)}, RepK K F kvs kds → kvs.length = kds.length
  | _, _, .nil => rfl
  | _, _, .cons _ r => by rw [List.length_cons, List.length_cons, rep_len r]
theorem rep_keys {F : Hp} : ∀ {kvs : List (Key × V)} {kds : List (Key × D)}, RepK K F kvs kds → kvs.map (·.1) = kds.map (·.1)
  | _, _, .nil => rfl
  | _, _, .cons _ r => by rw [List.map_cons, List.map_cons, rep_keys r]
theorem merge_dist : ∀ {more : List (Key × V)} {kvs : List (Key × V)}, (kvs ++ more).map (·.1) |>.Nodup → mergeK kvs more = kvs ++ more
  | [], kvs, _ => (List.append_nil _).symm
  | p :: r, kvs, h => by
    have e : putK kvs p.1 p.2 = kvs ++ [p] := by
      unfold putK
      rw [if_neg]
      intro z
      obtain ⟨q, hq, e⟩ := List.any_eq_true.mp z
      have e := of_decide_eq_true e
      rw [List.map_append, List.nodup_append] at h
      exact h.2.2 q.1 (List.mem_map_of_mem hq) p.1 (List.mem_map_of_mem (List.mem_cons_self ..)) e
    show mergeK (putK kvs p.1 p.2) r = _
    rw [e, merge_dist (by rw [List.append_assoc]; exact h), List.append_assoc]
    rfl
theorem se_dctC {pos : Pos} {keys : List (Option Expr)} {values : List Expr} {kds : List (Key × D)} (h : KPairs X pos keys values kds) (hn : (kds.map (·.1)).Nodup := by decide) (hall : keys.all (·.isSome) = true := by rfl) (hl : keys.length = values.length := by rfl) (h0 : keys ≠ [] := by exact List.cons_ne_nil _ _) (h15 : keys.length ≤ 15 := by decide) (hk : kds.length ≤ 15 := by decide) : SE X W T (.Dict keys values pos) (xC (.dct kds)) := by
  obtain ⟨kvs, pp, rep⟩ := h
  refine ⟨_, pe_disp pp hall hl h0 h15, fun x Q s p => ?_⟩
  intro q hq
  refine tPairs_c ⟨upd_same, kvs, rfl, by rw [rep_len (rep (fun _ => none))]; exact hk, ?_⟩
  have e : mergeK [] kvs = kvs := merge_dist (by rw [List.nil_append, rep_keys (rep (fun _ => none))]; exact hn)
  rw [e]
  have e2 : upd (upd x.H q (.dK [])) q (.dK kvs) = upd x.H q (.dK kvs) := by
    funext a
    unfold upd
    split <;> rfl
  rw [e2]
  exact Post.here p (Ext.new s hq) s rfl _ (.dct upd_same (rep _))
end
end FL
namespace FL
open PySem PySem.Spec L2
section
variable {X : Cx} {W : WX} {T : List Nat} {K : PySem.W.Frag}
/-! ### two `for` in a comprehension -/
theorem lc1_it {J : It} {n : Nat} {G : Hp → Prop} {Y : Nat → Hp → V → Hp → Prop} (w : Walk J n G Y) {g : TG} {tt : TT} {te : TE} {vs : List Nat} {σ : St} {H1 : Hp} {D : Addr} {Qd : Hp → Prop} (Pv : Nat → Hp → Prop) (h0 : Pv 0 H1) (hG : ∀ i H, i ≤ n → Pv i H → G H)
    (hs : ∀ i x H H', i < n → Pv i H → Y i H x H' → g x (wipe σ vs) H' fun σ2 H2 => wipe σ2 vs = wipe σ vs ∧ tt σ2 H2 fun b H3 =>
      if b = true then te σ2 H3 fun y H4 => ∃ acc, H4 D = some (.lst acc) ∧ acc.length < sizeLine ∧ Pv (i + 1) (upd H4 D (.lst (acc ++ [y]))) else Pv (i + 1) H3) (hd : ∀ H, Pv n H → Qd H) :
    ∃ W : Nat → Nat → Hp → Prop, (∃ m, W 0 m H1) ∧ ∀ i m H, W i m H →
      (J.stop i H ∧ Qd H) ∨ (J.go i H ∧ ∃ Nx : Hp → Prop, (∀ H', Nx H' → ∃ m', m' < m ∧ W (i + 1) m' H') ∧ ∀ x H', J.yld i H x H' → g x (wipe σ vs) H' fun σ2 H2 => wipe σ2 vs = wipe σ vs ∧ tt σ2 H2 fun b H3 =>
        if b = true then te σ2 H3 fun y H4 => ∃ acc, H4 D = some (.lst acc) ∧ acc.length < sizeLine ∧ Nx (upd H4 D (.lst (acc ++ [y]))) else Nx H3) := by
  refine ⟨fun i m H => m = n - i ∧ i ≤ n ∧ Pv i H, ⟨n, by simp, Nat.zero_le _, h0⟩, ?_⟩
  rintro i m H ⟨rfl, hi, p⟩
  have q := hG i H hi p
  by_cases hlt : i < n
  · refine .inr ⟨w.goes i H hlt q, Pv (i + 1), fun H' p' => ⟨n - (i + 1), by omega, rfl, hlt, p'⟩, fun x H' y => hs i x H H' hlt p (w.yields i H x H' hlt q y)⟩
  · have e : i = n := by omega
    subst e
    exact .inl ⟨w.stops H q, hd H p⟩
/-- the inner list, then what follows -/
def innD (vs vs1 : List Nat) (g1 : D → M Unit) (t1 : M Bool) (e : M D) (k : List D → M (List D)) : List D → List D → M (List D) := fun es acc r => match compD vs1 g1 t1 e es acc r with
  | .ok acc2 r2 => k acc2 (wipeE r2 vs)
  | _ => .bad
def compD2 (vs vs1 : List Nat) (g : D → M Unit) (t : M Bool) (it1 : M (List D)) (g1 : D → M Unit) (t1 : M Bool) (e : M D) : List D → List D → M (List D)
  | [], acc => mP acc
  | d :: ds, acc => mB (noX (g d)) fun _ => mB (noX t) fun k => if k then mB (noX it1) fun es r => innD vs vs1 g1 t1 e (fun acc2 => compD2 vs vs1 g t it1 g1 t1 e ds acc2) es acc (wipeE r vs1)
    else fun r => compD2 vs vs1 g t it1 g1 t1 e ds acc (wipeE r vs)
/-- [e for g in it if t for g1 in it1 if t1] -/
def lComp2 (vs vs1 : List Nat) (it : M (List D)) (g : D → M Unit) (t : M Bool) (it1 : M (List D)) (g1 : D → M Unit) (t1 : M Bool) (e : M D) : M (List D) := mB it fun ds r => if noCel vs r then (match compD2 vs vs1 g t it1 g1 t1 e ds [] (wipeE r vs) with
  | .ok acc r2 => .ok acc (putBack r r2 vs)
  | _ => .bad) else .bad
theorem lc2_it {J : It} {n : Nat} {G : Hp → Prop} {Y : Nat → Hp → V → Hp → Prop} (w : Walk J n G Y) {g g1 : TG} {tt tt1 : TT} {wi1 : TI} {te : TE} {vs vs1 : List Nat} {σ : St} {H1 : Hp} {D : Addr} {Qd : Hp → Prop} (Pv : Nat → Hp → Prop) (h0 : Pv 0 (upd H1 D (.lst []))) (hG : ∀ i H, i ≤ n → Pv i H → G H)
    (hs : ∀ i x H H', i < n → Pv i H → Y i H x H' → g x (wipe σ vs) H' fun σ2 H2 => wipe σ2 vs = wipe σ vs ∧ tt σ2 H2 fun b H3 =>
      if b = true then wi1 σ2 H3 fun J1 H4 => ∃ W1 : Nat → Nat → Hp → Prop, (∃ m, W1 0 m H4) ∧ ∀ j k H, W1 j k H →
        (J1.stop j H ∧ Pv (i + 1) H) ∨ (J1.go j H ∧ ∃ Nx1 : Hp → Prop, (∀ H', Nx1 H' → ∃ k', k' < k ∧ W1 (j + 1) k' H') ∧ ∀ x H', J1.yld j H x H' → g1 x (wipe σ2 vs1) H' fun σ3 H5 => wipe σ3 vs1 = wipe σ2 vs1 ∧ tt1 σ3 H5 fun b H6 =>
          if b = true then te σ3 H6 fun y H7 => ∃ acc, H7 D = some (.lst acc) ∧ acc.length < sizeLine ∧ Nx1 (upd H7 D (.lst (acc ++ [y]))) else Nx1 H6)
      else Pv (i + 1) H3) (hd : ∀ H, Pv n H → Qd H) :
    ∃ W : Nat → Nat → Hp → Prop, (∃ m, W 0 m (upd H1 D (.lst []))) ∧ ∀ i m H, W i m H →
  (J.stop i H ∧ Qd H) ∨ (J.go i H ∧ ∃ Nx : Hp → Prop, (∀ H', Nx H' → ∃ m', m' < m ∧ W (i + 1) m' H') ∧ ∀ x H', J.yld i H x H' → g x (wipe σ vs) H' fun σ2 H2 => wipe σ2 vs = wipe σ vs ∧ tt σ2 H2 fun b H3 =>
    if b = true then wi1 σ2 H3 fun J1 H4 => ∃ W1 : Nat → Nat → Hp → Prop, (∃ m, W1 0 m H4) ∧ ∀ j k H, W1 j k H →
      (J1.stop j H ∧ Nx H) ∨ (J1.go j H ∧ ∃ Nx1 : Hp → Prop, (∀ H', Nx1 H' → ∃ k', k' < k ∧ W1 (j + 1) k' H') ∧ ∀ x H', J1.yld j H x H' → g1 x (wipe σ2 vs1) H' fun σ3 H5 => wipe σ3 vs1 = wipe σ2 vs1 ∧ tt1 σ3 H5 fun b H6 =>
        if b = true then te σ3 H6 fun y H7 => ∃ acc, H7 D = some (.lst acc) ∧ acc.length < sizeLine ∧ Nx1 (upd H7 D (.lst (acc ++ [y]))) else Nx1 H6)
    else Nx H3) := by
  refine ⟨fun i m H => m = n - i ∧ i ≤ n ∧ Pv i H, ⟨n, by simp, Nat.zero_le _, h0⟩, ?_⟩
  rintro i m H ⟨rfl, hi, p⟩
  have q := hG i H hi p
  by_cases hlt : i < n
  · refine .inr ⟨w.goes i H hlt q, Pv (i + 1), fun H' p' => ⟨n - (i + 1), by omega, rfl, hlt, p'⟩, fun x H' y => hs i x H H' hlt p (w.yields i H x H' hlt q y)⟩
  · have e : i = n := by omega
    subst e
    exact .inl ⟨w.stops H q, hd H p⟩
theorem ev_comp2 {wi wi1 : TI} {g g1 : TG} {tt tt1 : TT} {te : TE} {vs vs1 : List Nat} {fi fi1 : M (List D)} {fg fg1 : D → M Unit} {ft ft1 : M Bool} {fe : M D} (hT : ∀ i ∈ vs, i ∈ T) (hv1 : ∀ i ∈ vs1, i ∈ vs)
    (ei : EvI X W T wi fi) (eg : EvG X W0 vs g fg) (et : EvT X W0 T tt ft) (ei1 : EvI X W0 T wi1 fi1) (eg1 : EvG X W0 vs1 g1 fg1) (et1 : EvT X W0 T tt1 ft1) (ee : EvE X W0 T te fe) : EvL X W T (tLc2 wi g tt wi1 g1 tt1 te vs vs1) (lComp2 vs vs1 fi fg ft fi1 fg1 ft1 fe) := by
  intro x Q s p
  refine ei x _ s ?_
  unfold lComp2 mB at p
  cases e0 : fi x.r with
  | exc c pl ρ => simp only [e0] at p; exact p
  | bad => simp only [e0] at p; exact p
  | ok ds ρ =>
    simp only [e0] at p
    intro y hy f1 s1 e1 J wk
    rw [← hy] at p
    by_cases hno : noCel vs y.r = true
    case neg => rw [if_neg hno] at p; exact p.elim
    rw [if_pos hno] at p
    have p0 := p.shift f1
    clear p
    obtain ⟨G, Y, w, hG, hY⟩ := wk
    intro q hq
    obtain ⟨fw, sw⟩ := wiped_ok (T := T) s1 hT
    have hbq : (wiped y vs).H q = none := hq
    have nq : ∀ i k, ¬ CelAt (wiped y vs) i k q := fun i k c => not_cel s1 hq i k (wiped_cel c).2
    -- the end
    have key : ∀ (acc : List D) (r2 : List Ent) (z : Cf), compD2 vs vs1 fg ft fi1 fg1 ft1 fe ds [] (wipeE y.r vs) = .ok acc r2 → z.r = r2 → z.s = wipe y.s vs → Fr T (wiped y vs) z → RSt X.K z → (∀ i k, ¬ CelAt z i k q) →
        ∀ us, z.H q = some (.lst us) → z.F q = none → RepL X.K z.F us acc → Q (.ref q) z.H := by
      intro acc r2 z hc hz2 hz1 fz sz h4 us h1 h2 h3
      have p0 := p0
      rw [hc] at p0
      have f2 := fw.trans fz
      have lr : z.r.length = y.r.length := f2.ln
      have noc : ∀ i ∈ vs, ∀ k ds, y.r[i]? ≠ some (.cel k ds) := fun i hi k ds z => by
        have := List.all_eq_true.mp hno i hi
        rw [z] at this; cases this
      have celz : ∀ i k a, CelAt ⟨z.F, z.H, y.s, putBack y.r z.r vs⟩ i k a → CelAt z i k a := fun i k a ⟨⟨gs, g1⟩, g2⟩ => by
        have g1' : (putBack y.r z.r vs)[i]? = some (.cel k gs) := g1
        by_cases hi : i ∈ vs
        · rw [putBack_in lr hi] at g1'
          exact (noc i hi k gs g1').elim
        · rw [putBack_ne hi] at g1'
          refine ⟨⟨gs, g1'⟩, ?_⟩
          rw [hz1, wipe_ne hi]; exact g2
      refine p0 ⟨z.F, z.H, y.s, putBack y.r z.r vs⟩ (by rw [hz2]) ?_ ?_ e1 q us ⟨h1, h2, h3⟩ (f1.dm q hq) (fun i k c => h4 i k (celz i k q c))
      · refine ⟨(putBack_length _ _ _).trans lr, f2.ff, f2.dm, f2.nw, f2.hp, fun i k a c => f2.cc i k a (celz i k a c), fun i hi => ?_⟩
        have hv : i ∉ vs := fun z => hi (hT i z)
        refine ⟨?_, rfl⟩
        show (putBack y.r z.r vs)[i]? = y.r[i]?
        rw [putBack_ne hv]
        exact (f2.un i hi).1
      · refine ⟨sz.sub, by show y.s.length = (putBack y.r z.r vs).length; rw [putBack_length, lr]; exact s1.len, fun i d h => ?_, fun i k es h => ?_, fun i j k l a c c' => sz.dis i j k l a (celz _ _ _ c) (celz _ _ _ c')⟩
        · have h' : (putBack y.r z.r vs)[i]? = some (.val d) := h
          by_cases hi : i ∈ vs
          · rw [putBack_in lr hi] at h'
            obtain ⟨v, g1, g2⟩ := s1.val i d h'
            exact ⟨v, g1, g2.mono f2.ff⟩
          · rw [putBack_ne hi] at h'
            obtain ⟨v, g1, g2⟩ := sz.val i d h'
            rw [hz1, wipe_ne hi] at g1
            exact ⟨v, g1, g2⟩
        · have h' : (putBack y.r z.r vs)[i]? = some (.cel k es) := h
          by_cases hi : i ∈ vs
          · rw [putBack_in lr hi] at h'
            exact (noc i hi k es h').elim
          · rw [putBack_ne hi] at h'
            obtain ⟨a, g1, g2⟩ := sz.cel i k es h'
            rw [hz1, wipe_ne hi] at g1
            exact ⟨a, g1, g2⟩
    rw [← e1]
    obtain ⟨RR, hRR⟩ : ∃ RR, compD2 vs vs1 fg ft fi1 fg1 ft1 fe ds [] (wipeE y.r vs) = RR := ⟨_, rfl⟩
    rw [hRR] at p0
    simp only [hRR] at key
    let Pv : Nat → Hp → Prop := fun i H => ∃ (z : Cf) (acc : List D) (us : List V), z.s = wipe y.s vs ∧ z.H = H ∧ Fr T (wiped y vs) z ∧ RSt X.K z ∧ z.H q = some (.lst us) ∧ z.F q = none ∧ RepL X.K z.F us acc ∧
      (∀ i k, ¬ CelAt z i k q) ∧ compD2 vs vs1 fg ft fi1 fg1 ft1 fe (ds.drop i) acc z.r = RR
    have good : RR ≠ .bad := by intro z; rw [z] at p0; exact p0
    obtain ⟨b1, b2⟩ := bump (o := .lst []) (Fr.refl T (wiped y vs)) sw hbq (s1.sub.free hq) nq
    refine lc2_it w (vs1 := vs1) (D := q) (Qd := fun H => Q (.ref q) H) Pv ⟨_, [], [], rfl, rfl, b1, b2, upd_same, s1.sub.free hq, .nil, nq, by rw [List.drop_zero]; exact hRR⟩ ?_ ?_ ?_
    · rintro i H hi ⟨z, acc, us, _, rfl, fz, sz, _⟩
      exact hG z sz (fw.ff.trans fz.ff)
    · rintro i v H H' hi ⟨z, acc, us, zs, rfl, fz, sz, h1, h2, h3, h4, h5⟩ hy2
      obtain ⟨z', d, ex, rfl, hd, hv⟩ := hY i z v H' sz (fw.ff.trans fz.ff) hy2
      have s3 := ex.rst sz
      rw [drop_cons hd, ← ex.r] at h5
      have zs' : z'.s = wipe y.s vs := ex.s.trans zs
      have fz' : Fr T (wiped y vs) z' := fz.trans (ex.fr T)
      obtain ⟨i1, i2, i3⟩ := stays (ex.fr T) h1 h2 h4
      have h3' := h3.mono ex.ff
      rw [← zs']
      have c5 : compD2 vs vs1 fg ft fi1 fg1 ft1 fe (d :: ds.drop (i + 1)) acc z'.r ≠ .bad := by rw [h5]; exact good
      unfold compD2 mB at h5 c5
      refine eg z' v d _ s3 hv (noX_post (W := W0) ?_)
      cases ega : noX (fg d) z'.r with
      | bad => simp only [ega] at c5; exact (c5 rfl).elim
      | exc c pl r => exact (noX_exc ega).elim
      | ok _ ρ2 =>
        simp only [ega] at h5 c5
        intro z2 hz2 f2 s2
        rw [← hz2] at h5 c5
        have f2T : Fr T z' z2 := f2.mono hT
        obtain ⟨j1, j2, j3⟩ := stays f2T i1 i2 i3
        have hw2 : wipe z2.s vs = wipe y.s vs := by
          have l2 : z2.s.length = z'.s.length := by rw [s2.len, s3.len]; exact f2.ln
          rw [wipe_eq l2 fun i hi => (f2.un i hi).2, zs', wipe_wipe]
        refine ⟨hw2.trans zs'.symm, ?_⟩
        refine et z2 _ s2 (noX_post (W := W0) ?_)
        cases eta : noX ft z2.r with
        | bad => simp only [eta] at c5; exact (c5 rfl).elim
        | exc c pl r => exact (noX_exc eta).elim
        | ok b ρ3 =>
          simp only [eta] at h5 c5
          intro z3 hz3 f3 s3' e3
          rw [← hz3] at h5 c5
          obtain ⟨k1, k2, k3⟩ := stays f3 j1 j2 j3
          have fz3 : Fr T (wiped y vs) z3 := (fz'.trans f2T).trans f3
          cases b with
          | false =>
            simp only [Bool.false_eq_true, if_false] at h5 c5 ⊢
            obtain ⟨g1, g2⟩ := wiped_ok (T := T) s3' hT
            refine ⟨wiped z3 vs, acc, us, by show wipe z3.s vs = _; rw [e3, hw2], rfl, fz3.trans g1, g2, k1, k2, h3'.mono (f2.ff.trans f3.ff), fun i k c => k3 i k (wiped_cel c).2, ?_⟩
            exact h5
          | true =>
            simp only [if_true] at h5 c5 ⊢
            rw [← e3]
            refine ei1 z3 _ s3' (noX_post (W := W0) ?_)
            cases eia : noX fi1 z3.r with
            | bad => simp only [eia] at c5; exact (c5 rfl).elim
            | exc c pl r => exact (noX_exc eia).elim
            | ok es ρ4 =>
              simp only [eia] at h5 c5
              intro z4 hz4 f4 s4 e4 J1 wk1
              rw [← hz4] at h5 c5
              obtain ⟨G1, Y1, w1, hG1, hY1⟩ := wk1
              obtain ⟨l1, l2, l3⟩ := stays f4 k1 k2 k3
              have fz4 := fz3.trans f4
              have hT1 : ∀ i ∈ vs1, i ∈ T := fun i hi => hT i (hv1 i hi)
              have h34 := h3'.mono (f2.ff.trans (f3.ff.trans f4.ff))
              obtain ⟨g1', g2'⟩ := wiped_ok (T := T) s4 hT1
              have hw4 : wipe z4.s vs = wipe y.s vs := by rw [e4, e3, hw2]
              let Pv1 : Nat → Hp → Prop := fun j H => ∃ (u : Cf) (acc' : List D) (us' : List V), u.s = wipe z4.s vs1 ∧ u.H = H ∧ Fr T (wiped y vs) u ∧ RSt X.K u ∧ u.H q = some (.lst us') ∧ u.F q = none ∧ RepL X.K u.F us' acc' ∧
                (∀ i k, ¬ CelAt u i k q) ∧ Same z4.F u.F ∧ innD vs vs1 fg1 ft1 fe (fun acc2 => compD2 vs vs1 fg ft fi1 fg1 ft1 fe (ds.drop (i + 1)) acc2) (es.drop j) acc' u.r = RR
              rw [← e4]
              refine lc1_it w1 (D := q) Pv1 ⟨wiped z4 vs1, acc, us, rfl, rfl, fz4.trans g1', g2', l1, l2, h34, fun i k c => l3 i k (wiped_cel c).2, Same.refl _, by rw [List.drop_zero]; exact h5⟩ ?_ ?_ ?_
              · rintro j H hj ⟨u, acc', us', _, rfl, fu, su, _, _, _, _, sm, _⟩
                exact hG1 u su sm
              · rintro j v1 H H' hj ⟨u, acc', us', us0, rfl, fu, su, m1, m2, m3, m4, sm, m5⟩ hy3
                obtain ⟨u', d1, ex1, rfl, hd1, hv1'⟩ := hY1 j u v1 H' su sm hy3
                have su' := ex1.rst su
                rw [drop_cons hd1, ← ex1.r] at m5
                have us0' : u'.s = wipe z4.s vs1 := ex1.s.trans us0
                have fu' : Fr T (wiped y vs) u' := fu.trans (ex1.fr T)
                obtain ⟨n1, n2, n3⟩ := stays (ex1.fr T) m1 m2 m4
                have m3' := m3.mono ex1.ff
                rw [← us0']
                have c6 : innD vs vs1 fg1 ft1 fe (fun acc2 => compD2 vs vs1 fg ft fi1 fg1 ft1 fe (ds.drop (i + 1)) acc2) (d1 :: es.drop (j + 1)) acc' u'.r ≠ .bad := by rw [m5]; exact good
                unfold innD compD mB at m5 c6
                refine eg1 u' v1 d1 _ su' hv1' (noX_post (W := W0) ?_)
                cases egb : noX (fg1 d1) u'.r with
                | bad => simp only [egb] at c6; exact (c6 rfl).elim
                | exc c pl r => exact (noX_exc egb).elim
                | ok _ ρ5 =>
                  simp only [egb] at m5 c6
                  intro z5 hz5 f5 s5
                  rw [← hz5] at m5 c6
                  have f5T : Fr T u' z5 := f5.mono hT1
                  obtain ⟨o1, o2, o3⟩ := stays f5T n1 n2 n3
                  have hw5 : wipe z5.s vs1 = wipe z4.s vs1 := by
                    have l2 : z5.s.length = u'.s.length := by rw [s5.len, su'.len]; exact f5.ln
                    rw [wipe_eq l2 fun i hi => (f5.un i hi).2, us0', wipe_wipe]
                  refine ⟨hw5.trans us0'.symm, ?_⟩
                  refine et1 z5 _ s5 (noX_post (W := W0) ?_)
                  cases etb : noX ft1 z5.r with
                  | bad => simp only [etb] at c6; exact (c6 rfl).elim
                  | exc c pl r => exact (noX_exc etb).elim
                  | ok b ρ6 =>
                    simp only [etb] at m5 c6
                    intro z6 hz6 f6 s6 e6
                    rw [← hz6] at m5 c6
                    obtain ⟨q1, q2, q3⟩ := stays f6 o1 o2 o3
                    have fz6 : Fr T (wiped y vs) z6 := (fu'.trans f5T).trans f6
                    have sm6 : Same z4.F z6.F := (sm.trans ex1.ff).trans (f5.ff.trans f6.ff)
                    cases b with
                    | false =>
                      simp only [Bool.false_eq_true, if_false] at m5 c6 ⊢
                      obtain ⟨g1, g2⟩ := wiped_ok (T := T) s6 hT1
                      refine ⟨wiped z6 vs1, acc', us', by show wipe z6.s vs1 = _; rw [e6, hw5], rfl, fz6.trans g1, g2, q1, q2, m3'.mono (f5.ff.trans f6.ff), fun i k c => q3 i k (wiped_cel c).2, sm6, ?_⟩
                      exact m5
                    | true =>
                      simp only [if_true] at m5 c6 ⊢
                      rw [← e6]
                      refine ee z6 _ s6 (noX_post (W := W0) ?_)
                      cases eeb : noX fe z6.r with
                      | bad => simp only [eeb] at c6; exact (c6 rfl).elim
                      | exc c pl r => exact (noX_exc eeb).elim
                      | ok d7 ρ7 =>
                        simp only [eeb] at m5 c6
                        intro z7 hz7 f7 s7 e7 v7 hv7
                        rw [← hz7] at m5 c6
                        obtain ⟨r1, r2, r3⟩ := stays f7 q1 q2 q3
                        have fz7 := fz6.trans f7
                        by_cases c : decide (acc'.length < most) = true
                        · rw [if_pos c] at m5 c6
                          have hl : us'.length < sizeLine := by rw [m3.length]; exact Nat.lt_of_lt_of_le (of_decide_eq_true c) most_line
                          obtain ⟨g1, g2⟩ := wiped_ok (T := T) s7 hT1
                          obtain ⟨t1, t2⟩ := bump (o := .lst (us' ++ [v7])) (fz7.trans g1) g2 hbq r2 fun i k c => r3 i k (wiped_cel c).2
                          refine ⟨us', r1, hl, ⟨_, acc' ++ [d7], us' ++ [v7], ?_, rfl, t1, t2, upd_same, r2, ?_, fun i k c => r3 i k (wiped_cel (x := z7) ⟨c.1, c.2⟩).2, sm6.trans f7.ff, m5⟩⟩
                          · show wipe z7.s vs1 = _
                            rw [e7, e6, hw5]
                          · exact (m3'.mono (f5.ff.trans (f6.ff.trans f7.ff))).app (.cons hv7 .nil)
                        · rw [if_neg c] at c6
                          exact (c6 rfl).elim
              · rintro H ⟨u, acc', us', us0, rfl, fu, su, m1, m2, m3, m4, sm, m5⟩
                rw [List.drop_length] at m5
                obtain ⟨g1, g2⟩ := wiped_ok (T := T) su hT
                refine ⟨wiped u vs, acc', us', ?_, rfl, fu.trans g1, g2, m1, m2, m3, fun i k c => m4 i k (wiped_cel c).2, m5⟩
                show wipe u.s vs = _
                rw [us0]
                have : wipe (wipe z4.s vs1) vs = wipe z4.s vs := wipe_eq (wipe_length _ _) fun i hi => wipe_ne fun z => hi (hv1 i z)
                rw [this, hw4]
    · rintro H ⟨z, acc, us, zs, rfl, fz, sz, h1, h2, h3, h4, h5⟩
      rw [List.drop_length] at h5
      exact key acc z.r z h5.symm rfl zs fz sz h4 us h1 h2 h3
theorem el_comp2 (own : List (Str × Nat)) (vs1 : List Nat) {elt tg iter tg1 iter1 : Expr} {ifs ifs1 : List Expr} {scope : Scope} {pos : Pos} {fi fi1 : M (List D)} {fg fg1 : D → M Unit} {ft ft1 : M Bool} {fe : M D} (hc : X.calm = true) (hN : X.N.Nodup) (hi : SI X W T tg iter fi)
    (hg : ∀ (s : Shared) (H : Hp) (C : Addr) (cl : List (Str × Addr)) (fp : List Addr), SG (X.blk s H scope (compEnvC scope cl C X.env) fp) W0 (own.map (·.2)) tg fg)
    (ht : ∀ (s : Shared) (H : Hp) (C : Addr) (cl : List (Str × Addr)) (fp : List Addr), STs (X.blk s H scope (compEnvC scope cl C X.env) fp) W0 T ifs ft)
    (hi1 : ∀ (s : Shared) (H : Hp) (C : Addr) (cl : List (Str × Addr)) (fp : List Addr), SI (X.blk s H scope (compEnvC scope cl C X.env) fp) W0 T tg1 iter1 fi1)
    (hg1 : ∀ (s : Shared) (H : Hp) (C : Addr) (cl : List (Str × Addr)) (fp : List Addr), SG (X.blk s H scope (compEnvC scope cl C X.env) fp) W0 vs1 tg1 fg1)
    (ht1 : ∀ (s : Shared) (H : Hp) (C : Addr) (cl : List (Str × Addr)) (fp : List Addr), STs (X.blk s H scope (compEnvC scope cl C X.env) fp) W0 T ifs1 ft1)
    (he : ∀ (s : Shared) (H : Hp) (C : Addr) (cl : List (Str × Addr)) (fp : List Addr), SE (X.blk s H scope (compEnvC scope cl C X.env) fp) W0 T elt fe)
    (ok : BlkOk X.N X.env.scope scope own) (hT : ∀ i ∈ own.map (·.2), i ∈ T := by decide) (hv : ∀ i ∈ vs1, i ∈ own.map (·.2) := by decide) (hs : ∀ x, foldedSetIterable iter X.env x = pure x := by intro _; rfl) (hs1 : ∀ env x, foldedSetIterable iter1 env x = pure x := by intro _ _; rfl) : SL X W T (.ListComp elt [⟨tg, iter, ifs, 0⟩, ⟨tg1, iter1, ifs1, 0⟩] scope pos) (lComp2 (own.map (·.2)) vs1 fi fg ft fi1 fg1 ft1 fe) := by
  obtain ⟨wi, pi, ei⟩ := hi.ex
  exact ⟨_, pe_lc2 hc hN pi ok hv (g := canG X.K X.mg W0 (own.map (·.2)) fg) (tt := canT X.K X.mg W0 T ft) (wi1 := canI X.K X.mg W0 T fi1) (g1 := canG X.K X.mg W0 vs1 fg1) (tt1 := canT X.K X.mg W0 T ft1) (te := canE X.K X.mg W0 T fe) (fun s H C cl fp => (hg s H C cl fp).can) (fun s H C cl fp => (ht s H C cl fp).can) (fun s H C cl fp => (hi1 s H C cl fp).can) (fun s H C cl fp => (hg1 s H C cl fp).can) (fun s H C cl fp => (ht1 s H C cl fp).can) (fun s H C cl fp => (he s H C cl fp).can) hs hs1,
    ev_comp2 hT hv ei canG_ev canT_ev canI_ev canG_ev canT_ev canE_ev⟩
end
end FL
/-! FL27: zip walked, starred items, sorted whole numbers, insert, a fresh list handed on, several names where one is a cell. -/
namespace FL
open PySem PySem.Spec L2
section
open PyProof.Rows
/-! zip of a list or a tuple with a list or a tuple -/
def SqK (K : PySem.W.Frag) (k : Bool) (H : Hp) (a : Addr) (xs : List V) : Prop := if k then SqT K H a xs else SqL K H a xs
def IsK (k : Bool) (h : Heap) (a : Addr) (its : Array Value) : Prop := if k then h.IsTuple a its else h.IsList a its
def ItK (k : Bool) (h : Heap) (it l : Addr) (i : Nat) : Prop := if k then h.IsTupleIter it l i else h.IsListIter it l i
def objK (k : Bool) (l : Addr) : Obj := if k then { cls := .type "tuple_iterator", data := .fields #[.ref l, .int 0 0] } else { cls := .type "list_iterator", data := .fields #[.ref l, .int 0 0] }
theorem inv_k {X : Cx} {pins : List (Addr × Obj)} {σ : L2.St} {H : Hp} {s : Shared} {k : Bool} {a : Addr} {xs : List V} (I : Inv X pins σ H s) (h : SqK X.K k H a xs) : ∃ its : List Value, Vals xs its ∧ IsK k s.heap a its.toArray := by
  cases k
  · obtain ⟨its, r, p, _⟩ := I.list (show SqL X.K H a xs from h)
    exact ⟨its, r, p.isList⟩
  · obtain ⟨its, r, p, _⟩ := I.tuple (show SqT X.K H a xs from h)
    exact ⟨its, r, p⟩
theorem inj_k {X : Cx} {pins : List (Addr × Obj)} {σ : L2.St} {H : Hp} {s : Shared} {k : Bool} {a : Addr} {xs ys : List V} (I : Inv X pins σ H s) (h : SqK X.K k H a xs) (h' : SqK X.K k H a ys) : xs = ys := by
  cases k
  · exact I.list_inj (show SqL X.K H a xs from h) h'
  · exact I.tuple_inj (show SqT X.K H a xs from h) h'
theorem draws_k {prog : Program} {w : World} {A : Around} {k : Bool} (hh : A.handled = none) (it l : Addr) (hne : l ≠ it) (items : Array Value) :
    Draws prog w A it [it, l] items.size (fun i v => items[i]? = some v) (fun i h => ItK k h it l i ∧ IsK k h l items) := by
  cases k
  · exact Draws.list hh it l hne items
  · exact Draws.tuple hh it l hne items
theorem begins_k {k : Bool} (l : Addr) (items : Array Value) : Begins (.ref l) (objK k l) (fun h => IsK k h l items) := by
  cases k
  · exact begins_list l items
  · exact begins_tuple l items
theorem it_0 {k : Bool} {h : Heap} {it l : Addr} (e : h.get? it = some (objK k l)) : ItK k h it l 0 := by
  cases k
  · exact ⟨_, e, rfl, rfl⟩
  · exact ⟨_, e, rfl, rfl⟩
theorem it_at {k : Bool} {h h' : Heap} {it l : Addr} {i : Nat} (x : ItK k h it l i) (q : ∀ o, h.get? it = some o → h'.get? it = some o) : ItK k h' it l i := by
  cases k
  · exact Heap.IsListIter.at (show h.IsListIter it l i from x) q
  · exact Heap.IsTupleIter.at (show h.IsTupleIter it l i from x) q
theorem is_lt {k : Bool} {h : Heap} {l : Addr} {its : Array Value} (x : IsK k h l its) : l < h.objs.size := by
  cases k
  · obtain ⟨o, e, _⟩ := (show h.IsList l its from x)
    exact Heap.lt_size e
  · obtain ⟨o, e, _⟩ := (show h.IsTuple l its from x)
    exact Heap.lt_size e
theorem it_ex {k : Bool} {h : Heap} {it l : Addr} {i : Nat} (x : ItK k h it l i) : ∃ o, h.get? it = some o ∧ ∃ q, o.data = .fields q := by
  cases k
  · obtain ⟨o, e, _, d⟩ := (show h.IsListIter it l i from x)
    exact ⟨o, e, _, d⟩
  · obtain ⟨o, e, _, d⟩ := (show h.IsTupleIter it l i from x)
    exact ⟨o, e, _, d⟩
def ItzK (K : PySem.W.Frag) (k j : Bool) (a b : Addr) : It :=
  ⟨fun i H => ∃ (xs ys : List V) (x y : V), SqK K k H a xs ∧ SqK K j H b ys ∧ xs[i]? = some x ∧ ys[i]? = some y,
    fun i H v H' => ∃ T x y, v = .ref T ∧ H T = none ∧ H' = upd H T (.tup [x, y]) ∧ (∀ xs, SqK K k H a xs → xs[i]? = some x) ∧ ∀ ys, SqK K j H b ys → ys[i]? = some y,
    fun i H => ∃ xs ys : List V, SqK K k H a xs ∧ SqK K j H b ys ∧ ((xs.length = i ∧ i ≤ ys.length) ∨ (ys.length = i ∧ i ≤ xs.length))⟩
theorem turn_zipK {P : Program} {w : World} {K : PySem.W.Frag} {k j : Bool} {elts : List Expr} {kk : Nat} {tpos : Pos} {a b z TI TO i1 i2 : Addr} (S : ZipSep2 z TI TO i1 i2 [i1, a] [i2, b]) (n1 : a ≠ i1) (n2 : b ≠ i2) :
    Turn P w K (.Tuple elts kk tpos) (ItzK K k j a b) [z, TI, TO, i1, i2] z (fun i h => IsZip h z TI TO .none ∧ IsTupOf2 h TI (.ref i1) (.ref i2) ∧ (∃ x y, IsTupOf2 h TO x y) ∧ ItK k h i1 a i ∧ ItK j h i2 b i) where
  mem := by simp
  obj := fun i h st c hc => by
    obtain ⟨hz, hTI, ⟨x, y, hTO⟩, h1, h2⟩ := st
    obtain ⟨o1, e1, q1, d1⟩ := it_ex h1
    obtain ⟨o2, e2, q2, d2⟩ := it_ex h2
    have e' : c = z ∨ c = TI ∨ c = TO ∨ c = i1 ∨ c = i2 := by simpa using hc
    rcases e' with q | q | q | q | q
    · rw [q]; exact ⟨_, hz, fun v q => nomatch q⟩
    · rw [q]; exact ⟨_, hTI, fun v q => nomatch q⟩
    · rw [q]; exact ⟨_, hTO, fun v q => nomatch q⟩
    · rw [q]; exact ⟨o1, e1, fun v q => by rw [d1] at q; cases q⟩
    · rw [q]; exact ⟨o2, e2, fun v q => by rw [d2] at q; cases q⟩
  keep := fun i h h' st kp => by
    obtain ⟨hz, hTI, ⟨x, y, hTO⟩, h1, h2⟩ := st
    exact ⟨kp z (by simp) _ hz, kp TI (by simp) _ hTI, ⟨x, y, kp TO (by simp) _ hTO⟩, it_at h1 fun o q => kp i1 (by simp) o q, it_at h2 fun o q => kp i2 (by simp) o q⟩
  item := by
    intro X hP hw hK hc i pins s σ H E I hf st hg
    subst hP hw hK
    obtain ⟨hz, hTI, ⟨x0, y0, hTO⟩, h1, h2⟩ := st
    obtain ⟨xs, ys, x, y, hqx, hqy, hx, hy⟩ := hg
    obtain ⟨its, rv, p⟩ := inv_k I hqx
    obtain ⟨its2, rv2, p2⟩ := inv_k I hqy
    obtain ⟨u, hu, ru⟩ := rv.get hx
    obtain ⟨u2, hu2, ru2⟩ := rv2.get hy
    have hzl : z < s.heap.objs.size := Heap.lt_size hz
    have l1 : i < its.toArray.size := by
      rw [List.size_toArray]
      exact (List.getElem?_eq_some_iff.mp hu).1
    have l2 : i < its2.toArray.size := by
      rw [List.size_toArray]
      exact (List.getElem?_eq_some_iff.mp hu2).1
    have hh : X.A.in1.handled = none := I.ok.hd hc
    refine wpAny_pyNext_zipD2_item S (draws_k (k := k) hh i1 a n1 its.toArray) (draws_k (k := j) hh i2 b n2 its2.toArray) hz hTI hTO ⟨h1, p⟩ ⟨h2, p2⟩ l1 l2 fun x1 x2 h' tk px py z' TO' st1 st2 hT hsz hk => ?_
    have e1 : x1 = u := by
      rw [List.getElem?_toArray, hu] at px
      exact (Option.some.inj px).symm
    have e2 : x2 = u2 := by
      rw [List.getElem?_toArray, hu2] at py
      exact (Option.some.inj py).symm
    subst e1 e2
    refine ⟨_, rfl, wpAny_letOwnedTupleGo_zip (s := { s with heap := h', toks := tk }) z' fun h'' z'' sb => ?_⟩
    have hT2 : h''.get? s.heap.objs.size = some { cls := .type "tuple", data := .seq #[x1, x2] } := (sb.2 _ (Nat.ne_of_gt hzl)).trans hT
    have new : ObjOk X.prog X.w (upd H s.heap.objs.size (.tup [x, y])) h'' s.heap.objs.size (.tup [x, y]) :=
      ⟨by show 2 ≤ sizeLine; decide, [x1, x2], .cons ru (.cons ru2 .nil), ⟨_, hT2, rfl, _, rfl⟩⟩
    have I1 : Inv X pins σ (upd H s.heap.objs.size (.tup [x, y])) { s with heap := h'', toks := tk } :=
      I.turnedNew (t' := tk) (ch := [z, TI, TO, i1, i2]) (fun c o hb q => (sb.2 c (fun q' => hb (by simp [q']))).trans (hk c o (fun q' => hb (by simp [q'])) (fun q' => hb (by simp [q'])) (fun q' => hb (by simp [q'])) (fun q' => hb (by simp [q'])) q)) hf (Nat.le_refl _) new
    refine ⟨.ref s.heap.objs.size, _, I1, rfl, ⟨_, x, y, rfl, I.hok.fresh (Nat.le_refl _), rfl, fun l hl => by rw [inj_k I hl hqx]; exact hx, fun l hl => by rw [inj_k I hl hqy]; exact hy⟩, ⟨z'', ?_, ⟨x1, x2, ?_⟩, ?_, ?_⟩, fun c hcm => ?_⟩
    · exact (sb.2 _ S.TIz).trans (hk _ _ S.TIz S.TITO S.TIi1 S.TIi2 hTI)
    · exact (sb.2 _ S.TOz).trans TO'
    · exact it_at st1.1 fun o q => (sb.2 _ (Ne.symm S.zi1)).trans q
    · exact it_at st2.1 fun o q => (sb.2 _ (Ne.symm S.zi2)).trans q
    · have hlt : c < s.heap.objs.size := by
        obtain ⟨o1, q1, _⟩ := it_ex h1
        obtain ⟨o2, q2, _⟩ := it_ex h2
        have e' : c = z ∨ c = TI ∨ c = TO ∨ c = i1 ∨ c = i2 := by simpa using hcm
        rcases e' with q | q | q | q | q
        · rw [q]; exact hzl
        · rw [q]; exact Heap.lt_size hTI
        · rw [q]; exact Heap.lt_size hTO
        · rw [q]; exact Heap.lt_size q1
        · rw [q]; exact Heap.lt_size q2
      rw [upd_ne (Nat.ne_of_lt hlt)]
      exact (hf c hcm).1
  done := by
    intro X hP hw hK hc i pins s σ H E I hf st hg
    subst hP hw hK
    obtain ⟨hz, hTI, ⟨x0, y0, hTO⟩, h1, h2⟩ := st
    obtain ⟨xs, ys, hqx, hqy, hend⟩ := hg
    obtain ⟨its, rv, p⟩ := inv_k I hqx
    obtain ⟨its2, rv2, p2⟩ := inv_k I hqy
    have l1 := rv.length
    have l2 := rv2.length
    have s1 : its.toArray.size = xs.length := by rw [List.size_toArray, l1]
    have s2 : its2.toArray.size = ys.length := by rw [List.size_toArray, l2]
    have hh : X.A.in1.handled = none := I.ok.hd hc
    refine wpAny_pyNext_zipD2_end S (draws_k (k := k) hh i1 a n1 its.toArray) (draws_k (k := j) hh i2 b n2 its2.toArray) hz hTI hTO ⟨h1, p⟩ ⟨h2, p2⟩ (by omega) (by omega) (by omega) fun h' tk hk => ⟨rfl, I.turnedL (t' := tk) (ch := [z, TI, TO, i1, i2]) (fun c o hb q =>
      hk c o (fun q' => hb (by simp [q'])) (fun q' => hb (by simp [q'])) (fun q' => hb (by simp [q'])) (fun q' => hb (by simp [q'])) q) hf⟩
  self := fun A i s Q E st h => wpAny_pyIter_zip st.1 h
theorem pi_zipK {X : Cx} {e e2 : Expr} {ta : TA} {p pos tpos : Pos} {elts : List Expr} {kk : Nat} (hg : Gl X "zip") (hm : X.mg "zip" = none) (ha : PA X [e, e2] ta)
    (hs : starEach [e, e2] X.env = (false, eval e X.env) :: starEach [e2] X.env := by rfl) (hpl : (backTo pos (starEach [e2] X.env)).any (·.1) = false := by rfl) :
    PI X (.Tuple elts kk tpos) (.Call (.Name "zip" p) [e, e2] [] pos) (fun σ H R => ta σ H fun vs H1 => ∃ (k j : Bool) (a b : Addr) (xs ys : List V), vs = [.ref a, .ref b] ∧ SqK X.K k H1 a xs ∧ SqK X.K j H1 b ys ∧ R (ItzK X.K k j a b) H1) := by
  refine ⟨fun pins s σ H R I h => ?_⟩
  refine Call_ (ld_blt I hg hm PyProof.Rows.boot_zip (PyProof.Rows.callWith_type1 (thn (ha.run pos pins s σ H _ I h) fun us s1 ⟨vs, H1, I1, r1, q1⟩ => ?_) hs hpl))
  obtain ⟨k, j, a, b, xs, ys, ex, hqx, hqy, q⟩ := q1
  subst ex
  cases r1 with
  | cons r rr =>
    cases rr with
    | cons r' rr =>
      cases rr
      cases r
      cases r'
      obtain ⟨its, rv, p1⟩ := inv_k I1 hqx
      obtain ⟨its2, rv2, p2⟩ := inv_k I1 hqy
      have la := is_lt p1
      have lb := is_lt p2
      refine zip_begins2 (begins_k (k := k) a its.toArray) (begins_k (k := j) b its2.toArray) p1 p2 fun h' hz hTI hTO h1 h2 hsz hk => wpAny_pyIter_zip hz ?_
      have I2 : Inv X pins σ H1 { s1 with heap := h' } := I1.kept (t' := s1.toks) hk
      have fresh5 : ∀ c, c ∈ [s1.heap.objs.size + 4, s1.heap.objs.size + 2, s1.heap.objs.size + 3, s1.heap.objs.size, s1.heap.objs.size + 1] → FpOk X pins H1 c := fun c hcm => by
        have hle : s1.heap.objs.size ≤ c := by
          have e' : c = s1.heap.objs.size + 4 ∨ c = s1.heap.objs.size + 2 ∨ c = s1.heap.objs.size + 3 ∨ c = s1.heap.objs.size ∨ c = s1.heap.objs.size + 1 := by simpa using hcm
          rcases e' with z | z | z | z | z <;> rw [z] <;> first | exact Nat.le_add_right _ _ | exact Nat.le_refl _
        exact I1.fpOk hle (I1.hok.fresh hle)
      exact ⟨s1.heap.objs.size + 4, [s1.heap.objs.size + 4, s1.heap.objs.size + 2, s1.heap.objs.size + 3, s1.heap.objs.size, s1.heap.objs.size + 1], _, _, H1, rfl, I2, turn_zipK (zip_sep2 (fp1 := [a]) (fp2 := [b]) (fun c hc => by rw [List.mem_singleton.mp hc]; exact la) (fun c hc => by rw [List.mem_singleton.mp hc]; exact lb)) (Nat.ne_of_lt la) (Nat.ne_of_lt (Nat.lt_succ_of_lt lb)), ⟨hz, hTI, ⟨_, _, hTO⟩, it_0 h1, it_0 h2⟩, fresh5, q⟩
theorem walk_zipK {K : PySem.W.Frag} {k j : Bool} {a b : Addr} {xs ys : List V} {n : Nat} (hn : n = min xs.length ys.length) : Walk (ItzK K k j a b) n (fun H => SqK K k H a xs ∧ SqK K j H b ys) (YPair (fun i => xs[i]?) (fun i => ys[i]?)) := by
  subst hn
  refine ⟨fun i _ hi q => ?_, fun _ q => ⟨xs, ys, q.1, q.2, by omega⟩, fun i H v H' _ q y => ?_⟩
  · have h1 : i < xs.length := by omega
    have h2 : i < ys.length := by omega
    exact ⟨xs, ys, xs[i], ys[i], q.1, q.2, by simp [h1], by simp [h2]⟩
  · obtain ⟨T, x, z, h1, h2, h3, h4, h5⟩ := y
    exact ⟨T, x, z, h1, h2, h3, h4 xs q.1, h5 ys q.2⟩
end
section
variable {X : Cx} {W : WX} {T : List Nat} {K : PySem.W.Frag}
/-! ### a comprehension within a comprehension -/
theorem rel_eq {osc : Scope} {env e0 : Env} (he : env.scope = e0.scope) : relabel osc env = relabel osc e0 := by
  unfold relabel Env.kindOf
  rw [he]
theorem blkOk_in {Y : Cx} {s : Shared} {H : Hp} {osc isc : Scope} {cl : List (Str × Addr)} {C : Addr} {fp : List Addr} {N : List Str} {own : List (Str × Nat)} (e0 : Env) (he : Y.env.scope = e0.scope) (h : blkC N (relabel osc e0) isc own = true) : BlkOk N (Y.blk s H osc (compEnvC osc cl C Y.env) fp).env.scope isc own := by
  show BlkOk N (relabel osc Y.env) isc own
  rw [rel_eq he]
  exact blkOk_by h
/-! ### zip -/
def zipD (a b : List D) : List D := (a.zip b).map fun p => .tup [p.1, p.2]
theorem zipD_len (a b : List D) : (zipD a b).length = min a.length b.length := by unfold zipD; rw [List.length_map, List.length_zip]
theorem zipD_get {a b : List D} {i : Nat} {x y : D} (h : a[i]? = some x) (h2 : b[i]? = some y) : (zipD a b)[i]? = some (.tup [x, y]) := by
  unfold zipD
  rw [List.getElem?_map, List.getElem?_zip_eq_some.mpr (⟨h, h2⟩ : a[i]? = some (x, y).1 ∧ b[i]? = some (x, y).2)]
  rfl
def zip2 : List D → Option (List D)
  | [.tup a, .tup b] => some (zipD a b)
  | [.tup a, .lst b] => some (zipD a b)
  | [.tup a, .scr b] => some (zipD a b)
  | [.lst a, .tup b] => some (zipD a b)
  | [.lst a, .lst b] => some (zipD a b)
  | [.lst a, .scr b] => some (zipD a b)
  | [.scr a, .tup b] => some (zipD a b)
  | [.scr a, .lst b] => some (zipD a b)
  | [.scr a, .scr b] => some (zipD a b)
  | _ => none
theorem walk_zipT {a b : Addr} {xs ys : List V} {n : Nat} (hn : n = min xs.length ys.length) : Walk (RZ.ItzT K a b) n (fun H => SqT K H a xs ∧ SqT K H b ys) (YPair (fun i => xs[i]?) (fun i => ys[i]?)) := by
  subst hn
  refine ⟨fun i _ hi q => ?_, fun _ q => ⟨xs, ys, q.1, q.2, by omega⟩, fun i H v H' _ q y => ?_⟩
  · have h1 : i < xs.length := by omega
    have h2 : i < ys.length := by omega
    exact ⟨xs, ys, xs[i], ys[i], q.1, q.2, by simp [h1], by simp [h2]⟩
  · obtain ⟨T, x, z, h1, h2, h3, h4, h5⟩ := y
    exact ⟨T, x, z, h1, h2, h3, h4 xs q.1, h5 ys q.2⟩
theorem walkZ {a b : List D} {xs ys : List V} {y : Cf} {J : It} {G : Hp → Prop} (w : Walk J (min xs.length ys.length) G (YPair (fun i => xs[i]?) (fun i => ys[i]?))) (r : RepL K y.F xs a) (r2 : RepL K y.F ys b) (hG : ∀ z : Cf, RSt K z → Same y.F z.F → G z.H) : WalkD K J (zipD a b) y := by
  refine ⟨G, _, by rw [zipD_len, ← r.length, ← r2.length]; exact w, hG, fun i z v H' s e q => ?_⟩
  have q' := q
  obtain ⟨t, x0, y0, e0, h1, h2, h4, h5⟩ := q'
  obtain ⟨d, h6, h7⟩ := r.get' h4
  obtain ⟨d2, h8, h9⟩ := r2.get' h5
  obtain ⟨z', a1, a2, a3⟩ := pair_step (d := d) (e := d2) s q (fun x hx => by
    have hx' : xs[i]? = some x := hx
    have h4' : xs[i]? = some x0 := h4
    rw [h4'] at hx'
    cases hx'
    exact h7.mono e) (fun y' hy => by
    have hy' : ys[i]? = some y' := hy
    have h5' : ys[i]? = some y0 := h5
    rw [h5'] at hy'
    cases hy'
    exact h9.mono e)
  exact ⟨z', _, a1, a2, zipD_get h6 h8, a3⟩
theorem si_zip {e e2 : Expr} {f : M (List D)} {p pos tpos : Pos} {elts : List Expr} {kk : Nat} (hm : X.mg "zip" = none) (ha : SD X W T [e, e2] f) (hg : Gl X "zip" := by rfl)
    (hs : starEach [e, e2] X.env = (false, eval e X.env) :: starEach [e2] X.env := by rfl) (hpl : (backTo pos (starEach [e2] X.env)).any (·.1) = false := by rfl) : SI X W T (.Tuple elts kk tpos) (.Call (.Name "zip" p) [e, e2] [] pos) (iOf zip2 f) := by
  obtain ⟨ta, pa, ea⟩ := ha.ex
  refine ⟨_, pi_zipK hg hm pa hs hpl, fun x R s p => ?_⟩
  refine ea.bind s p fun ds y f1 s1 e1 vs hv p1 => ?_
  cases q : zip2 ds with
  | none => rw [q] at p1; exact p1.elim
  | some es =>
    rw [q] at p1
    have p2 := p1 y rfl (Fr.refl T y) s1 e1
    match ds, hv, q with
    | [.tup a, .tup b], .cons h1 (.cons h2 .nil), q =>
      cases q
      cases h1 with
      | tup g1 r1 =>
        cases h2 with
        | tup g2 r2 => exact ⟨true, true, _, _, _, _, rfl, sameT s1.sub g1, sameT s1.sub g2, p2 _ (walkZ (walk_zipK (k := true) (j := true) rfl) r1 r2 fun z sz ez => ⟨sameT sz.sub (sameT ez g1), sameT sz.sub (sameT ez g2)⟩)⟩
    | [.tup a, .lst b], .cons h1 (.cons h2 .nil), q =>
      cases q
      cases h1 with
      | tup g1 r1 =>
        cases h2 with
        | lst g2 r2 => exact ⟨true, false, _, _, _, _, rfl, sameT s1.sub g1, SqL.of (s1.sub _ _ g2), p2 _ (walkZ (walk_zipK (k := true) (j := false) rfl) r1 r2 fun z sz ez => ⟨sameT sz.sub (sameT ez g1), SqL.of (sz.sub _ _ (ez _ _ g2))⟩)⟩
    | [.tup a, .scr b], .cons h1 (.cons h2 .nil), q =>
      cases q
      cases h1 with
      | tup g1 r1 =>
        cases h2 with
        | scr g2 r2 => exact ⟨true, false, _, _, _, _, rfl, sameT s1.sub g1, s1.sub.seq g2, p2 _ (walkZ (walk_zipK (k := true) (j := false) rfl) r1 r2 fun z sz ez => ⟨sameT sz.sub (sameT ez g1), sz.sub.seq (ez.seq g2)⟩)⟩
    | [.lst a, .tup b], .cons h1 (.cons h2 .nil), q =>
      cases q
      cases h1 with
      | lst g1 r1 =>
        cases h2 with
        | tup g2 r2 => exact ⟨false, true, _, _, _, _, rfl, SqL.of (s1.sub _ _ g1), sameT s1.sub g2, p2 _ (walkZ (walk_zipK (k := false) (j := true) rfl) r1 r2 fun z sz ez => ⟨SqL.of (sz.sub _ _ (ez _ _ g1)), sameT sz.sub (sameT ez g2)⟩)⟩
    | [.lst a, .lst b], .cons h1 (.cons h2 .nil), q =>
      cases q
      cases h1 with
      | lst g1 r1 =>
        cases h2 with
        | lst g2 r2 => exact ⟨false, false, _, _, _, _, rfl, SqL.of (s1.sub _ _ g1), SqL.of (s1.sub _ _ g2), p2 _ (walkZ (walk_zipK (k := false) (j := false) rfl) r1 r2 fun z sz ez => ⟨SqL.of (sz.sub _ _ (ez _ _ g1)), SqL.of (sz.sub _ _ (ez _ _ g2))⟩)⟩
    | [.lst a, .scr b], .cons h1 (.cons h2 .nil), q =>
      cases q
      cases h1 with
      | lst g1 r1 =>
        cases h2 with
        | scr g2 r2 => exact ⟨false, false, _, _, _, _, rfl, SqL.of (s1.sub _ _ g1), s1.sub.seq g2, p2 _ (walkZ (walk_zipK (k := false) (j := false) rfl) r1 r2 fun z sz ez => ⟨SqL.of (sz.sub _ _ (ez _ _ g1)), sz.sub.seq (ez.seq g2)⟩)⟩
    | [.scr a, .tup b], .cons h1 (.cons h2 .nil), q =>
      cases q
      cases h1 with
      | scr g1 r1 =>
        cases h2 with
        | tup g2 r2 => exact ⟨false, true, _, _, _, _, rfl, s1.sub.seq g1, sameT s1.sub g2, p2 _ (walkZ (walk_zipK (k := false) (j := true) rfl) r1 r2 fun z sz ez => ⟨sz.sub.seq (ez.seq g1), sameT sz.sub (sameT ez g2)⟩)⟩
    | [.scr a, .lst b], .cons h1 (.cons h2 .nil), q =>
      cases q
      cases h1 with
      | scr g1 r1 =>
        cases h2 with
        | lst g2 r2 => exact ⟨false, false, _, _, _, _, rfl, s1.sub.seq g1, SqL.of (s1.sub _ _ g2), p2 _ (walkZ (walk_zipK (k := false) (j := false) rfl) r1 r2 fun z sz ez => ⟨sz.sub.seq (ez.seq g1), SqL.of (sz.sub _ _ (ez _ _ g2))⟩)⟩
    | [.scr a, .scr b], .cons h1 (.cons h2 .nil), q =>
      cases q
      cases h1 with
      | scr g1 r1 =>
        cases h2 with
        | scr g2 r2 => exact ⟨false, false, _, _, _, _, rfl, s1.sub.seq g1, s1.sub.seq g2, p2 _ (walkZ (walk_zipK (k := false) (j := false) rfl) r1 r2 fun z sz ez => ⟨sz.sub.seq (ez.seq g1), sz.sub.seq (ez.seq g2)⟩)⟩
/-! ### starred items -/
def dStar (a : M D) (r : M (List D)) : M (List D) := mB a fun d => mB (mO (rowD d)) fun xs => mB r fun ds => mP (xs ++ ds)
theorem sd_star {e : Expr} {p : Pos} {es : List Expr} {fa : M D} {fr : M (List D)} (ha : SE X W T e fa) (hr : SD X W T es fr) (hs : starEach (.Starred e p :: es) X.env = (true, eval e X.env) :: starEach es X.env := by rfl) : SD X W T (.Starred e p :: es) (dStar fa fr) := by
  obtain ⟨ta, pa, ea⟩ := ha.ex
  obtain ⟨tr, pr, er⟩ := hr.ex
  refine ⟨_, StX.pa_star pa pr hs, fun x Q s p => ?_⟩
  refine ea.bind s p fun d y f1 s1 e1 v hv p1 => ?_
  cases q : rowD d with
  | none => rw [q] at p1; exact p1.elim
  | some xs =>
    rw [q] at p1
    obtain ⟨a, vs, rfl, r, h⟩ := row_cases hv q
    refine ⟨a, vs, rfl, h.elim (fun h => .inr (s1.sub.seq h)) (fun h => .inl (sameT s1.sub h)), ?_⟩
    show tr x.s y.H _
    rw [← e1]
    exact er.bind s1 p1 fun ds z f2 s2 e2 us hvs p2 => p2 z rfl (Fr.refl T z) s2 (e2.trans e1) (vs ++ us) ((r.mono f2.ff).app hvs)
/-! ### sorted, whole numbers -/
def intsD : List D → Option (List Int)
  | [] => some []
  | .int i :: r => (intsD r).map (i :: ·)
  | _ => none
def sortB : List D → Option (List D)
  | [.lst ds] => (intsD ds).map fun ns => (ns.mergeSort fun a b => decide (a ≤ b)).map .int
  | [.tup ds] => (intsD ds).map fun ns => (ns.mergeSort fun a b => decide (a ≤ b)).map .int
  | _ => none
section
open PyProof.Rows
theorem sorted_tup {prog : Program} {w : World} {A : Around} {E : Value → Shared → Prop} {s : Shared} {l : Addr} {vs : List Value} {ltv : Value → Value → Bool} {Q : Value → Shared → Prop} (O : SrtO.Swo ltv) (hl : s.heap.IsTuple l vs.toArray) (hz : vs.length ≤ sizeLine)
    (hS : 2 ≤ vs.length → ∀ (h₁ : Heap) (a : Addr), SrtO.SortableO prog w A.in1.in1 { s with heap := h₁ } a vs ltv)
    (h : ∀ (h' : Heap) (out : List Value), (∀ b o, s.heap.get? b = some o → h'.get? b = some o) → SrtO.Srtd ltv out → SrtO.Stb ltv out vs → Q (.ref h'.objs.size) { s with heap := sortedHeap (h'.push (seqObj "list" vs.toArray 0)) h'.objs.size vs out.toArray }) :
    wpAny (model prog w) A (call (.builtin "sorted") [.ref l]) Q E s := by
  refine Calls.call_function_entry kind_sorted plain_sorted entry_sorted (args_sorted1 _) ?_
  unfold Builtin.«sorted»
  refine wpAny_bind (m := checkCount "sorted" 1 1 _) (wpAny_pure ?_)
  obtain ⟨o, ho, hc, n, hd⟩ := id hl
  refine wpAny_bind (wpAny_collect_seq l (.inr rfl) ho hc hd (fun h' hk => ?_) (by simpa using hz))
  rw [show vs.toArray.toList = vs by simp]
  refine wpAny_bind (wpAny_newList ?_ hz)
  have hoL : (h'.push (seqObj "list" vs.toArray 0)).get? h'.objs.size = some (seqObj "list" vs.toArray 0) := Heap.get?_push_size _ rfl
  show wpAny _ _ _ _ _ { s with heap := h'.push (seqObj "list" vs.toArray 0) }
  refine wpAny_bind (wpAny_holding (wpAny_call_entry slot_list_sort ⟨_, hoL, rfl⟩ entry_list_sort (SrtO.list_sort_ord O hoL hz (fun h2 => hS h2 _ _) fun out hs hb => ⟨_, rfl, ?_⟩) (args_list_sort _)))
  exact wpAny_pure ⟨_, rfl, h h' out hk hs hb⟩
/-- sorted(t), t a tuple of ints or a list of ints -/
def rSortedQ (K : PySem.W.Frag) : List V → Hp → VK → Prop := fun vs H Q => ∃ (a : Addr) (ns : List Int), vs = [V.ref a] ∧ (SqL K H a (ns.map V.int) ∨ SqT K H a (ns.map V.int)) ∧
  ∀ (ns' : List Int) (p : Addr), ns'.Perm ns → ns'.Pairwise (· ≤ ·) → H p = none → Q (.ref p) (upd H p (.lst (ns'.map V.int)))
theorem cr_sortedQ {X : Cx} : CallR X (.builtin "sorted") (rSortedQ X.K) := by
  intro pins s σ H vs us Q I r h
  obtain ⟨a, ns, rfl, hs | hs, q⟩ := h
  · exact cr_sortedI _ _ _ _ _ _ _ I r ⟨a, ns, rfl, hs, q⟩
  · obtain ⟨its, rv, hl, hz⟩ := I.tuple hs
    rw [Vals.ref1 r]
    have hi := rv.ints
    refine sorted_tup SrtO.swo_int hl (by rw [← rv.length]; exact hz) (fun h2 h₁ a' => SrtO.ints_sortable hi h2) fun h' out hk h1 h2 => ?_
    obtain ⟨k1, k2, k3⟩ := SrtO.ints_out hi h1 h2
    have hp : s.heap.get? h'.objs.size = none := by
      cases e : s.heap.get? h'.objs.size with
      | none => rfl
      | some o => exact absurd (Heap.lt_size (hk _ _ e)) (Nat.lt_irrefl _)
    have hoL : (h'.push (seqObj "list" its.toArray 0)).get? h'.objs.size = some (seqObj "list" its.toArray 0) := Heap.get?_push_size _ rfl
    obtain ⟨ep, he'⟩ := sortedHeap_at (vs := its) (out := out.toArray) hoL
    have hlen : ((out.map SrtO.iv).map V.int).length ≤ sizeLine := by
      rw [List.length_map, k2.length_eq]
      rw [List.length_map] at hz
      exact hz
    refine ⟨.ref _, upd H h'.objs.size (.lst ((out.map SrtO.iv).map V.int)), I.laidN (t' := s.toks) (fun b o e => ?_) hp (I.hok.gone hp) ⟨hlen, out, ep, vals_of_ints k1, he'⟩, rfl, q _ _ k2 k3 (I.hok.gone hp)⟩
    have e2 := hk b o e
    have lt := Heap.lt_size e2
    rw [sortedHeap_old (Nat.ne_of_lt lt) (Nat.lt_of_lt_of_le lt (by rw [size_push']; exact Nat.le_succ _))]
    exact Heap.get?_push_of_some _ e2
end
theorem intsD_rep {F : Hp} : ∀ {vs : List V} {ds : List D} {ns : List Int}, RepL K F vs ds → intsD ds = some ns → vs = ns.map V.int ∧ ds = ns.map D.int
  | _, _, _, .nil, h => by cases h; exact ⟨rfl, rfl⟩
  | _, _, ns, .cons (d := .int i) (ds := ds) h r, q => by
    unfold intsD at q
    cases g : intsD ds with
    | none => rw [g] at q; cases q
    | some ms =>
      rw [g] at q
      cases q
      cases h
      obtain ⟨h1, h2⟩ := intsD_rep r g
      exact ⟨by rw [h1]; rfl, by rw [h2]; rfl⟩
  | _, _, ns, .cons (d := .non) h r, q => by cases q
  | _, _, ns, .cons (d := .bl _) h r, q => by cases q
  | _, _, ns, .cons (d := .str _) h r, q => by cases q
  | _, _, ns, .cons (d := .tup _) h r, q => by cases q
  | _, _, ns, .cons (d := .lst _) h r, q => by cases q
  | _, _, ns, .cons (d := .scr _) h r, q => by cases q
  | _, _, ns, .cons (d := .dct _) h r, q => by cases q
  | _, _, ns, .cons (d := .opq _) h r, q => by cases q
  | _, _, ns, .cons (d := .dfn _) h r, q => by cases q
theorem repL_ints {F : Hp} : ∀ ns : List Int, RepL K F (ns.map V.int) (ns.map D.int)
  | [] => .nil
  | n :: ns => .cons (.int n) (repL_ints ns)
theorem perm_sort : ∀ {a b : List Int}, a.Perm b → a.Pairwise (· ≤ ·) → b.Pairwise (· ≤ ·) → a = b
  | [], b, h, _, _ => (List.nil_perm.mp h).symm
  | x :: a, [], h, _, _ => absurd h (by simp)
  | x :: a, y :: b, h, h1, h2 => by
    obtain ⟨p1, p2⟩ := List.pairwise_cons.mp h1
    obtain ⟨q1, q2⟩ := List.pairwise_cons.mp h2
    have m1 : x ∈ y :: b := h.mem_iff.mp List.mem_cons_self
    have m2 : y ∈ x :: a := h.mem_iff.mpr List.mem_cons_self
    have e : x = y := by
      rcases List.mem_cons.mp m1 with z | z
      · exact z
      · rcases List.mem_cons.mp m2 with z2 | z2
        · exact z2.symm
        · have := p1 y z2
          have := q1 x z
          omega
    subst e
    rw [perm_sort (List.perm_cons x |>.mp h) p2 q2]
theorem sort_is {a b : List Int} (h : a.Perm b) (h1 : a.Pairwise (· ≤ ·)) : a = b.mergeSort fun a b => decide (a ≤ b) := by
  refine perm_sort (h.trans (List.mergeSort_perm ..).symm) h1 ?_
  have := List.pairwise_mergeSort (le := fun a b : Int => decide (a ≤ b)) (fun a b c h1 h2 => by simp at *; omega) (fun a b => by simp; omega) b
  exact this.imp fun h => by simpa using h
theorem el_sort {e : Expr} {fa : M (List D)} {p pos : Pos} (hm : X.mg "sorted" = none) (ha : SD X W T [e] fa) (hg : Gl X "sorted" := by rfl) (hv : bootBuiltins "sorted" = some (.builtin "sorted") := by decide +kernel) (hn : ("sorted" : Str) ≠ "__name__" := by decide)
    (hdb : (("sorted" : Str) == ("__debug__" : Str)) = false := by decide) (he : starEach [e] X.env = (false, eval e X.env) :: starEach [] X.env := by rfl) (hpl : (backTo pos (starEach [] X.env)).any (·.1) = false := by rfl) : SL X W T (.Call (.Name "sorted" p) [e] [] pos) (lB sortB fa) := by
  obtain ⟨ta, pa, ea⟩ := ha.ex
  refine ⟨_, pe_callB cr_sortedQ hg hm hv pa hn hdb he hpl, fun x Q s p => ?_⟩
  refine ea.bind s p fun ds y f1 s1 e1 vs hv p1 => ?_
  cases q : sortB ds with
  | none => rw [q] at p1; exact p1.elim
  | some gs =>
    rw [q] at p1
    match ds, hv, q with
    | [.lst ds], .cons h1 .nil, q =>
      simp only [sortB] at q
      cases g : intsD ds with
      | none => rw [g] at q; cases q
      | some ns =>
        rw [g] at q
        cases q
        cases h1 with
        | lst g1 r1 =>
          obtain ⟨e3, e4⟩ := intsD_rep r1 g
          subst e3
          refine ⟨_, ns, rfl, .inl (SqL.of (s1.sub _ _ g1)), fun ns' l hp hs hl => ?_⟩
          have ex := Ext.raw (o := .lst (ns'.map V.int)) s1 hl
          refine Post.here p1 ex s1 (ex.s.trans e1) l _ ⟨upd_same, s1.sub.free hl, ?_⟩ (f1.dm l hl) fun i k c => not_cel s1 hl i k c
          rw [sort_is hp hs]
          exact repL_ints _
    | [.tup ds], .cons h1 .nil, q =>
      simp only [sortB] at q
      cases g : intsD ds with
      | none => rw [g] at q; cases q
      | some ns =>
        rw [g] at q
        cases q
        cases h1 with
        | tup g1 r1 =>
          obtain ⟨e3, e4⟩ := intsD_rep r1 g
          subst e3
          refine ⟨_, ns, rfl, .inr (sameT s1.sub g1), fun ns' l hp hs hl => ?_⟩
          have ex := Ext.raw (o := .lst (ns'.map V.int)) s1 hl
          refine Post.here p1 ex s1 (ex.s.trans e1) l _ ⟨upd_same, s1.sub.free hl, ?_⟩ (f1.dm l hl) fun i k c => not_cel s1 hl i k c
          rw [sort_is hp hs]
          exact repL_ints _
/-! ### list(range(..)) -/
theorem rgV_D {F : Hp} (a b : Int) : RepL K F (rgV a b) (rgD a (b - a).toNat) := by
  unfold rgV rgD
  generalize List.range (b - a).toNat = l
  induction l with
  | nil => exact .nil
  | cons i l ih => exact .cons (.int _) ih
theorem rgOk_ok {a b : Int} (h1 : rgOk a = true) (h2 : rgOk b = true) : RgOk a b := by
  obtain ⟨h1, h3⟩ := of_decide_eq_true h1
  obtain ⟨h2, h4⟩ := of_decide_eq_true h2
  exact ⟨by omega, by omega, by omega, by omega, by omega⟩
theorem lB_one {o : List D → Option (List D)} {fa : M D} : lB o (dCons fa (mP [])) = mB fa fun d => mO (o [d]) := by
  funext r
  show mB (mB fa fun d => mB (mP []) fun ds => mP (d :: ds)) (fun ds => mO (o ds)) r = _
  unfold mB mP
  simp only
  cases fa r <;> rfl
theorem lB_two {o : List D → Option (List D)} {fa fb : M D} : lB o (dCons fa (dCons fb (mP []))) = mB fa fun d => mB fb fun e => mO (o [d, e]) := by
  funext r
  show mB (mB fa fun d => mB (mB fb fun d => mB (mP []) fun ds => mP (d :: ds)) fun ds => mP (d :: ds)) (fun ds => mO (o ds)) r = _
  unfold mB mP
  simp only
  cases fa r with
  | ok d ρ =>
    simp only
    cases fb ρ <;> rfl
  | exc c p ρ => rfl
  | bad => rfl
theorem el_lrg1 {a : Expr} {fa : M D} {p p2 pos pos2 : Pos} (hm : X.mg "list" = none) (hm2 : X.mg "range" = none) (ha : SE X W T a fa) (hc : X.calm = true := by rfl) (hg : Gl X "list" := by rfl) (hg2 : Gl X "range" := by rfl)
    (na : starEach [a] X.env = (false, eval a X.env) :: starEach [] X.env := by rfl) (nb : starEach [.Call (.Name "range" p2) [a] [] pos2] X.env = (false, eval (.Call (.Name "range" p2) [a] [] pos2) X.env) :: starEach [] X.env := by rfl) :
    SL X W T (.Call (.Name "list" p) [.Call (.Name "range" p2) [a] [] pos2] [] pos) (lB range1 (dCons fa (mP []))) := by
  obtain ⟨ta, pa, ea⟩ := ha.ex
  refine ⟨_, pe_listRg hc hg hm (prg_1 hg2 hm2 pa na) nb, fun x Q s p => ?_⟩
  rw [lB_one] at p
  refine ea.bind (k := fun d => mO (range1 [d])) s p fun d y f1 s1 e1 v hv p1 => ?_
  cases q : range1 [d] with
  | none => rw [q] at p1; exact p1.elim
  | some es =>
    rw [q] at p1
    cases d <;> try (simp [range1] at q; done)
    rename_i j
    cases hv
    simp only [range1] at q
    split at q
    · rename_i c
      cases q
      refine ⟨j, rfl, rgOk_ok (by decide) c, fun l hl => ?_⟩
      have ex := Ext.raw (o := .lst (rgV 0 j)) s1 hl
      refine Post.here p1 ex s1 (ex.s.trans e1) l _ ⟨upd_same, s1.sub.free hl, ?_⟩ (f1.dm l hl) fun i k c => not_cel s1 hl i k c
      have := rgV_D (K := X.K) (F := y.F) 0 j
      rw [Int.sub_zero] at this
      exact this
    · cases q
theorem el_lrg2 {a b : Expr} {fa fb : M D} {p p2 pos pos2 : Pos} (hm : X.mg "list" = none) (hm2 : X.mg "range" = none) (ha : SE X W T a fa) (hb : SE X W T b fb) (hc : X.calm = true := by rfl) (hg : Gl X "list" := by rfl) (hg2 : Gl X "range" := by rfl)
    (na : starEach [a, b] X.env = (false, eval a X.env) :: starEach [b] X.env := by rfl) (na2 : starEach [b] X.env = (false, eval b X.env) :: starEach [] X.env := by rfl) (hp : (backTo pos2 (starEach [b] X.env)).any (·.1) = false := by rfl)
    (nb : starEach [.Call (.Name "range" p2) [a, b] [] pos2] X.env = (false, eval (.Call (.Name "range" p2) [a, b] [] pos2) X.env) :: starEach [] X.env := by rfl) :
    SL X W T (.Call (.Name "list" p) [.Call (.Name "range" p2) [a, b] [] pos2] [] pos) (lB range2 (dCons fa (dCons fb (mP [])))) := by
  obtain ⟨ta, pa, ea⟩ := ha.ex
  obtain ⟨tb, pb, eb⟩ := hb.ex
  refine ⟨_, pe_listRg hc hg hm (prg_2 hg2 hm2 pa pb na na2 hp) nb, fun x Q s p => ?_⟩
  rw [lB_two] at p
  refine ea.bind (k := fun d => mB fb fun e => mO (range2 [d, e])) s p fun d y f1 s1 e1 v hv p1 => ?_
  show tb x.s y.H _
  rw [← e1]
  refine eb.bind s1 p1 fun e z f2 s2 e2 u hu p2 => ?_
  have e1 : z.s = x.s := e2.trans e1
  cases q : range2 [d, e] with
  | none => rw [q] at p2; exact p2.elim
  | some es =>
    rw [q] at p2
    cases d <;> try (cases e <;> simp [range2] at q <;> done)
    rename_i i
    cases e <;> try (simp [range2] at q; done)
    rename_i j
    cases hv
    cases hu
    simp only [range2] at q
    split at q
    · rename_i c
      cases q
      obtain ⟨c1, c2⟩ := Bool.and_eq_true_iff.mp c
      refine ⟨i, j, rfl, rfl, rgOk_ok c1 c2, fun l hl => ?_⟩
      have ex := Ext.raw (o := .lst (rgV i j)) s2 hl
      exact Post.here p2 ex s2 (ex.s.trans e1) l _ ⟨upd_same, s2.sub.free hl, rgV_D i j⟩ (f1.dm l (f2.dm l hl)) fun i k c => not_cel s2 hl i k c
    · cases q
/-! ### insert -/
def insC (i d : D) (ds : List D) : Option (List D) := match i with
  | .int n => if decide (ds.length < most ∧ 0 ≤ n ∧ n < 1000000) then some (ds.take n.toNat ++ [d] ++ ds.drop n.toNat) else none
  | _ => none
def sIns (j : Nat) (ma mb : M D) : M Fl := mB (hasC j) fun _ => mB ma fun i => mB mb fun d => mB (updc j (insC i d)) fun _ => mP .nx
theorem ss_ins (j : Nat) {x : Str} {e e2 : Expr} {f f2 : M D} {p1 apos cpos pos : Pos} (he : SE X W T e f) (he2 : SE X W T e2 f2) (hN : X.N[j]? = some x := by rfl) (hv : Vis X.env.scope x := by first | exact Or.inl rfl | exact Or.inr (Or.inl rfl) | exact Or.inr (Or.inr rfl)) (hT : j ∈ T := by decide)
    (hd : (x == ("__debug__" : Str)) = false := by decide) (hc : (x == ("__classdict__" : Str)) = false := by decide)
    (hbase : attributeBase (.Name x p1) "insert" X.env (eval (.Name x p1) X.env) = eval (.Name x p1) X.env := by rfl)
    (hfew : ((backTo cpos (starEach [e, e2] X.env)).all (fun x => !x.1) && (backToKw cpos (keywordEach [] X.env)).all (fun x => x.1.isSome) && decide ([e, e2].length + ([] : List Keyword).length + (if ([] : List Keyword).isEmpty then 0 else 1) < 30)) = true := by rfl)
    (hline : (apos.endLine == cpos.line) = true := by rfl) (hst : starEach [e, e2] X.env = (false, eval e X.env) :: starEach [e2] X.env := by rfl) (hst2 : starEach [e2] X.env = (false, eval e2 X.env) :: starEach [] X.env := by rfl) (hpl : (backTo cpos (starEach [e2] X.env)).any (·.1) = false := by rfl)
    (hs : swapsWith (.Call (.Attribute (.Name x p1) "insert" apos) [e, e2] [] cpos) none pos.line X.env = pure false := by rfl) : SS X W T (.Expr (.Call (.Attribute (.Name x p1) "insert" apos) [e, e2] [] cpos) pos) (sIns j f f2) := by
  obtain ⟨te, pe, ev⟩ := he.ex
  obtain ⟨te2, pe2, ev2⟩ := he2.ex
  refine ⟨_, ps_expr (pe_bm PySem.F.plainAttrs_list PySem.F.slot_list_insert PySem.F.type_list_insert mt_insert (pe_var (i := j) hN hv hd hc) (pa_cons pe (pa_cons pe2 pa_nil hst2) hst) hbase hfew hline hst hpl) hs, fun x Dn s p => ?_⟩
  obtain ⟨⟨k, ds, q, us, e0, hs, hq⟩, p1⟩ := hasC_run s p
  refine ⟨_, hs, .inl ⟨rfl, _, SqL.of hq⟩, ?_⟩
  refine ev.bind s p1 fun i y f1 s1 e1 vi hvi p2 => ?_
  show te2 x.s y.H _
  rw [← e1]
  refine ev2.bind s1 p2 fun d z fz sz ez v hv p3 => ?_
  have e3 : z.s = x.s := ez.trans e1
  obtain ⟨k2, ds2, es, q2, us2, h1, h2, h3, h4, h5⟩ := updc_run sz hT p3
  rw [e3, hs] at h1
  cases h1
  obtain ⟨n, rfl⟩ : ∃ n, i = .int n := by cases i <;> first | exact ⟨_, rfl⟩ | cases h4
  simp only [insC] at h4
  by_cases c : decide (ds2.length < most ∧ 0 ≤ n ∧ n < 1000000) = true
  · rw [if_pos c] at h4
    cases h4
    obtain ⟨c1, c2, c3⟩ := of_decide_eq_true c
    cases hvi
    obtain ⟨a, b, g⟩ := h5 (us2.take n.toNat ++ [v] ++ us2.drop n.toNat) (((h3.take _).app (.cons hv .nil)).app (h3.drop _))
    refine ⟨q, us2, n, v, rfl, rfl, h2, by rw [h3.length]; exact Nat.lt_of_lt_of_le c1 most_line, c2, by omega, ?_⟩
    have := g _ rfl (Fr.refl T _) a
    show Dn.nx y.s _
    rw [e1, ← e3]
    exact this
  · rw [if_neg c] at h4
    cases h4
/-! ### a fresh list handed on to a def that changes it -/
def allP : List PIt → Option (List D)
  | [] => some []
  | .val d :: r => (allP r).map (d :: ·)
  | .new _ :: _ => none
def splitP : List PIt → Option (List D × List D × List D)
  | [] => none
  | .val d :: r => (splitP r).map fun t => (d :: t.1, t.2.1, t.2.2)
  | .new l :: r => (allP r).map fun ds => ([], l, ds)
theorem allP_rep {x y : Cf} : ∀ {vs : List V} {is : List PIt} {as : List Addr} {ds : List D}, ItsR K x y vs is as → allP is = some ds → RepL K y.F vs ds
  | _, _, _, _, .nil, h => by cases h; exact .nil
  | _, _, _, _, .val (d := d) (is := is) h r, q => by
    simp only [allP] at q
    cases g : allP is with
    | none => rw [g] at q; cases q
    | some es => rw [g] at q; cases q; exact .cons h (allP_rep r g)
  | _, _, _, _, .new _ _ _ _ _, q => by cases q
theorem splitP_rep {x y : Cf} : ∀ {vs : List V} {is : List PIt} {as : List Addr} {pre l post : List D}, ItsR K x y vs is as → splitP is = some (pre, l, post) →
    ∃ vs1 q us vs2, vs = vs1 ++ V.ref q :: vs2 ∧ RepL K y.F vs1 pre ∧ RepL K y.F vs2 post ∧ FreshAt K y q us l ∧ x.H q = none ∧ ∀ i k, ¬ CelAt y i k q
  | _, _, _, _, _, _, .nil, h => by cases h
  | _, _, _, _, _, _, .val (v := v) (d := d) (is := is) h r, q => by
    simp only [splitP] at q
    cases g : splitP is with
    | none => rw [g] at q; cases q
    | some t =>
      rw [g] at q
      obtain ⟨t1, t2, t3⟩ := t
      cases q
      obtain ⟨vs1, w, us, vs2, e, h1, h2, h3⟩ := splitP_rep r g
      exact ⟨v :: vs1, w, us, vs2, by rw [e]; rfl, .cons h h1, h2, h3⟩
  | _, _, _, _, _, _, .new (p := p) (us := us) (vs := vs) (is := is) h1 h2 h3 h4 r, q => by
    simp only [splitP] at q
    cases g : allP is with
    | none => rw [g] at q; cases q
    | some es =>
      rw [g] at q
      cases q
      exact ⟨[], p, us, vs, rfl, .nil, allP_rep r g, h1, h2, h3⟩
def callN (np i : Nat) (F : List Ent → R D) (m : M (List PIt)) : M D := mB m fun is r => match splitP is with
  | some (pre, l, post) => if decide (is.length = np ∧ pre.length = i) then (match F (ioArgs pre l post) with
    | .ok d [.cel .io _] => .ok d r
    | .exc c pl [.cel .io _] => .exc c pl r
    | _ => .bad) else .bad
  | none => .bad
theorem io_backN {x y z : Cf} {i : Nat} {l pre post : List D} {vs : List V} {q : Addr} {us : List V} (hy : Fr T x y) (s : RSt K y) (hx : x.H q = none) (hp : y.H q = some (.lst us)) (fq : y.F q = none) (nc : ∀ i k, ¬ CelAt y i k q)
    (hi : pre.length = i) (hvi : vs[i]? = some (.ref q)) (f : Fr [i] ⟨y.F, y.H, vs.map some, ioArgs pre l post⟩ z) (sz : RSt K z) :
    Fr T x ⟨z.F, z.H, y.s, y.r⟩ ∧ RSt K ⟨z.F, z.H, y.s, y.r⟩ := by
  have celx : ∀ a k p, CelAt ⟨y.F, y.H, vs.map some, ioArgs pre l post⟩ a k p → a = i ∧ k = .io ∧ p = q := by
    rintro a k p ⟨⟨gs, h1⟩, h2⟩
    rcases ioArgs_get h1 with ⟨d, _, e, _⟩ | ⟨e1, e2⟩ | ⟨b, d, _, _, e⟩
    · cases e
    · cases e2
      have h2' : (vs.map some)[a]? = some (some (V.ref p)) := h2
      rw [e1, hi, List.getElem?_map, hvi] at h2'
      cases h2'
      exact ⟨by omega, rfl, rfl⟩
    · cases e
  have nF : ∀ p, y.H p ≠ none → y.F p = none → p ≠ q → z.F p = none := fun p h3 h4 ne => by
    cases w : z.F p with
    | none => rfl
    | some o =>
      rcases f.nw p o w with ⟨u, g2⟩ | g2 | ⟨b, g2⟩
      · have g3 : y.F p = some u := g2
        rw [h4] at g3; cases g3
      · exact (h3 g2).elim
      · exact (ne (celx b _ p g2).2.2).elim
  refine ⟨⟨hy.ln, hy.ff.trans f.ff, fun a h => hy.dm a (f.dm a h), fun a o h => ?_, fun a o h n => ?_, hy.cc, hy.un⟩, ⟨sz.sub, s.len, fun a d e => ?_, fun a k gs e => ?_, s.dis⟩⟩
  · rcases f.nw a o h with ⟨u, g⟩ | g | ⟨b, g⟩
    · exact hy.nw a u g
    · exact .inr (.inl (hy.dm a g))
    · have := (celx b _ a g).2.1
      cases this
  · have h2 := hy.hp a o h n
    refine f.hp a o h2 fun b _ k c => ?_
    have := (celx b k a c).2.2
    rw [this, hx] at h
    cases h
  · obtain ⟨v, h1, h2⟩ := s.val a d e
    exact ⟨v, h1, h2.mono f.ff⟩
  · obtain ⟨p, h1, ws, h2, h3, h4⟩ := s.cel a k gs e
    have ne : p ≠ q := fun z => nc a k ⟨⟨gs, e⟩, by rw [← z]; exact h1⟩
    exact ⟨p, h1, ws, h2.mono f.ff, f.hp p _ h3 (fun b _ k' c => ne (celx b k' p c).2.2), nF p (by rw [h3]; exact fun z => nomatch z) h4 ne⟩
theorem itsR_len {x y : Cf} {vs : List V} {is : List PIt} {as : List Addr} (h : ItsR K x y vs is as) : vs.length = is.length := by
  induction h with
  | nil => rfl
  | val _ _ ih => exact congrArg (· + 1) ih
  | new _ _ _ _ _ ih => exact congrArg (· + 1) ih
theorem ev_callN {np i : Nat} {F : List Ent → R D} {ta : TA} {fa : M (List PIt)} (ea : EvP X W T ta fa) : EvE X W T (tCallSD (SpF X.K X.mg (some i) false np F) [] (WE W) ta) (callN np i F fa) := by
  intro x Q s p
  refine ea x _ s ?_
  unfold callN mB at p
  cases e0 : fa x.r with
  | exc c pl ρ => simp only [e0] at p; exact p
  | bad => simp only [e0] at p; exact p
  | ok is ρ =>
    simp only [e0] at p
    intro y hy fy s1 e1 vs as hv
    rw [← hy] at p
    rw [List.append_nil]
    cases q0 : splitP is with
    | none => simp only [q0] at p; exact p.elim
    | some t =>
      obtain ⟨pre, l, post⟩ := t
      simp only [q0] at p
      by_cases c : decide (is.length = np ∧ pre.length = i) = true
      case neg => rw [if_neg c] at p; exact p.elim
      rw [if_pos c] at p
      obtain ⟨c1, c2⟩ := of_decide_eq_true c
      obtain ⟨vs1, q, us, vs2, rfl, r1, r2, ⟨h3, h4, h2⟩, hxq, hnc⟩ := splitP_rep hv q0
      have lv : (vs1 ++ V.ref q :: vs2).length = np := by rw [itsR_len hv]; exact c1
      have hvi : (vs1 ++ V.ref q :: vs2)[i]? = some (.ref q) := by
        rw [← c2, ← r1.length, List.getElem?_append_right (Nat.le_refl _), Nat.sub_self]; rfl
      have celx : ∀ a k p, CelAt ⟨y.F, y.H, (vs1 ++ V.ref q :: vs2).map some, ioArgs pre l post⟩ a k p → some i = some a ∧ k = .io := by
        rintro a k p ⟨⟨gs, g1⟩, g2⟩
        rcases ioArgs_get g1 with ⟨d, _, e, _⟩ | ⟨e1, e2⟩ | ⟨b, d, _, _, e⟩
        · cases e
        · cases e2
          exact ⟨by rw [e1, c2], rfl⟩
        · cases e
      have sx : RSt X.K ⟨y.F, y.H, (vs1 ++ V.ref q :: vs2).map some, ioArgs pre l post⟩ := by
        refine ⟨s1.sub, ?_, fun a d h => ?_, fun a k gs h => ?_, fun a b k l p cc cc' => ?_⟩
        · show ((vs1 ++ V.ref q :: vs2).map some).length = (ioArgs pre l post).length
          unfold ioArgs valsOf
          simp [r1.length, r2.length]
        · rcases ioArgs_get h with ⟨d', g1, e, g2⟩ | ⟨_, e2⟩ | ⟨b, d', g0, g1, e⟩
          · cases e
            obtain ⟨v, g3, g4⟩ := r1.get g1
            refine ⟨v, ?_, g4⟩
            show ((vs1 ++ V.ref q :: vs2).map some)[a]? = _
            rw [List.getElem?_map, List.getElem?_append_left (by rw [r1.length]; exact g2), g3]; rfl
          · cases e2
          · cases e
            obtain ⟨v, g3, g4⟩ := r2.get g1
            refine ⟨v, ?_, g4⟩
            show ((vs1 ++ V.ref q :: vs2).map some)[a]? = _
            rw [List.getElem?_map, g0, List.getElem?_append_right (by rw [r1.length]; omega), r1.length, show pre.length + 1 + b - pre.length = b + 1 by omega]
            show ((vs2[b]?).map some) = _
            rw [g3]; rfl
        · rcases ioArgs_get h with ⟨d', _, e, _⟩ | ⟨e1, e2⟩ | ⟨b, d', _, _, e⟩
          · cases e
          · cases e2
            refine ⟨q, ?_, us, h2, h3, h4⟩
            show ((vs1 ++ V.ref q :: vs2).map some)[a]? = _
            rw [List.getElem?_map, e1, c2, hvi]; rfl
          · cases e
        · have e1 := (celx a k p cc).1
          have e2 := (celx b l p cc').1
          have e3 := e1.symm.trans e2
          exact Option.some.inj e3
      refine ⟨lv, ⟨y.F, y.H, (vs1 ++ V.ref q :: vs2).map some, ioArgs pre l post⟩, rfl, rfl, sx, celx, ?_⟩
      show PostF X.K X.mg (some i) false _ (F (ioArgs pre l post)) Q _
      cases q2 : F (ioArgs pre l post) with
      | bad => simp only [q2] at p; exact p.elim
      | exc cn pl o =>
        match o, q2 with
        | [.cel .io es], q2 =>
          simp only [q2] at p
          intro z cls dx zs zr fz sz w
          obtain ⟨a1, a2⟩ := io_backN fy s1 hxq h3 h4 hnc c2 hvi fz sz
          have := p ⟨z.F, z.H, y.s, y.r⟩ cls dx rfl a1 a2 w
          rw [show (⟨z.F, z.H, y.s, y.r⟩ : Cf).s = x.s from e1] at this
          exact this
        | [], q2 => simp only [q2] at p; exact p.elim
        | [.no], q2 => simp only [q2] at p; exact p.elim
        | [.val _], q2 => simp only [q2] at p; exact p.elim
        | [.cel .own _], q2 => simp only [q2] at p; exact p.elim
        | _ :: _ :: _, q2 => simp only [q2] at p; exact p.elim
      | ok d o =>
        match o, q2 with
        | [.cel .io es], q2 =>
          simp only [q2] at p
          intro z zs zr fz sz v hv2
          obtain ⟨a1, a2⟩ := io_backN fy s1 hxq h3 h4 hnc c2 hvi fz sz
          exact p ⟨z.F, z.H, y.s, y.r⟩ rfl a1 a2 e1 v hv2
        | [], q2 => simp only [q2] at p; exact p.elim
        | [.no], q2 => simp only [q2] at p; exact p.elim
        | [.val _], q2 => simp only [q2] at p; exact p.elim
        | [.cel .own _], q2 => simp only [q2] at p; exact p.elim
        | _ :: _ :: _, q2 => simp only [q2] at p; exact p.elim
theorem se_callN {x : Str} {st : Stmt} {ps : List Str} {k : Nat} {F : List Ent → R D} {e : Expr} {es : List Expr} {p pos : Pos} {np : Nat} {i : Nat} (G : DefOk X.prog X.w X.K X.mg X.base x st ps k (some i) false F) (hr : Room k X.A) (tk : Takes X W) {fa : M (List PIt)} (ha : SP' X W T (e :: es) fa) (hg : Gl X x := by rfl) (hdb : (x == ("__debug__" : Str)) = false := by decide)
    (he : starEach (e :: es) X.env = (false, eval e X.env) :: starEach es X.env := by rfl) (hpl : (backTo pos (starEach es X.env)).any (·.1) = false := by rfl) (hn : ps.length = np := by rfl) : SE X W T (.Call (.Name x p) (e :: es) [] pos) (callN np i F fa) := by
  subst hn
  obtain ⟨f, fd, hm, hk, _, FO, hb⟩ := G.ex
  obtain ⟨ta, pa, ea⟩ := ha.ex
  exact ⟨_, pe_callSD FO hr hg hm hk hb .nil (fun σ => passAt tk σ) pa hdb he hpl, ev_callN ea⟩
/-! ### several names from a display, where one name is a cell: by a tuple -/
theorem ItsR.tup {x y : Cf} {t : Addr} {vs us : List V} {is : List PIt} {as : List Addr} (ht : y.H t = none) (r : ItsR K x y vs is as) : ItsR K x ⟨y.F, upd y.H t (.tup us), y.s, y.r⟩ vs is as := by
  induction r with
  | nil => exact .nil
  | val h _ ih => exact .val h ih
  | new h1 h2 h3 h4 _ ih => exact .new ⟨(upd_ne (ne_of_none h1.1 ht)).trans h1.1, h1.2.1, h1.2.2⟩ h2 h3 h4 ih
theorem tupN_run {js : List Nat} {m : M (List PIt)} {ta : TA} {z : Cf} {Dn : Ends} (ea : EvP X W T ta m) (s : RSt X.K z) (hT : ∀ l ∈ js, l ∈ T) (p : Post X.K X.mg T W z (sParN js m z.r) (SQ X.K z Dn)) {Q : List V → Hp → Prop}
    (n : ∀ (vs : List V) (y : Cf), vs.length = js.length → vs.length ≤ most → (∀ t, y.H t = none → Dn.nx (setSs z.s js vs) (upd y.H t (.tup vs))) → Q vs y.H) (hl : js.length ≤ most) : ta z.s z.H Q := by
  refine ea z _ s ?_
  unfold sParN mB at p
  cases e0 : m z.r with
  | exc c pl ρ => simp only [e0] at p; exact p
  | bad => simp only [e0] at p; exact p
  | ok is ρ =>
    simp only [e0] at p
    intro y hy f1 s1 e1 vs as hv
    rw [← hy] at p
    obtain ⟨w, a1, a2, a3, a4, a5, a6⟩ := setIts_run (m := mP Fl.nx) s1 f1 hv hT p
    refine n vs y a6.symm (by rw [← a6]; exact hl) fun t ht => ?_
    have ex := Ext.raw (o := .tup vs) s1 ht
    obtain ⟨w, a1, a2, a3, a4, a5, a6⟩ := setIts_run (y := ⟨y.F, upd y.H t (.tup vs), y.s, y.r⟩) (m := mP Fl.nx) (ex.rst s1) (f1.trans (ex.fr T)) (hv.tup ht) hT p
    have h : Dn.nx w.s w.H := a5 w rfl a4 a3
    rw [a1, a2] at h
    rw [← e1]
    exact h
theorem ss_tupN2 (i j : Nat) {x y : Str} {a b : Expr} {m : M (List PIt)} {px py pt pos : Pos} {kt k2 pt2} (hc : X.calm = true) (hN : X.N.Nodup) (ha : SP' X W T [a, b] m) (hw : swappedStores [.Tuple [.Name x px, .Name y py] kt pt] (.Tuple [a, b] k2 pt2) X.env = pure none)
    (hi : X.N[i]? = some x := by rfl) (hj : X.N[j]? = some y := by rfl) (hx : Loc X.env.scope x := by first | exact Or.inl rfl | exact Or.inr rfl) (hy : Loc X.env.scope y := by first | exact Or.inl rfl | exact Or.inr rfl) (hT : ∀ l ∈ [i, j], l ∈ T := by decide)
    (hfx : X.fn x = true ∨ X.env.scope.names.lookup x = some .local := by first | exact .inl rfl | exact .inr rfl) (hfy : X.fn y = true ∨ X.env.scope.names.lookup y = some .local := by first | exact .inl rfl | exact .inr rfl)
    (hs : swapsWithSole [.Tuple [.Name x px, .Name y py] kt pt] (.Tuple [a, b] k2 pt2) pos.line X.env = pure false := by rfl)
    (h1 : (assignEach [.Tuple [.Name x px, .Name y py] kt pt] X.env).map (·.2) = [assign (.Tuple [.Name x px, .Name y py] kt pt) X.env] := by rfl)
    (hn : (assignEach [.Name x px, .Name y py] X.env).length = 2 := by rfl) (hst : (assignEach [.Name x px, .Name y py] X.env).findIdx? (·.1) = none := by rfl)
    (g1 : (assignEach [.Name x px, .Name y py] X.env).map (·.2) = assign (.Name x px) X.env :: (assignEach [.Name y py] X.env).map (·.2) := by rfl) (g2 : (assignEach [.Name y py] X.env).map (·.2) = assign (.Name y py) X.env :: (assignEach [] X.env).map (·.2) := by rfl) : SS X W T (.Assign [.Tuple [.Name x px, .Name y py] kt pt] (.Tuple [a, b] k2 pt2) pos) (sParN [i, j] m) := by
  obtain ⟨ta, pa, ea⟩ := ha.ex
  refine ⟨_, ps_asg (pe_tup pa) (pg_tup hc (pgs_cons (pg_name hN hi hx hfx) (pgs_cons (pg_name hN hj hy hfy) pgs_nil g2) g1) hn hst) hs hw h1, fun z Dn s p => ?_⟩
  refine tupN_run ea s hT p (fun vs y hl hm q => ?_) (by simp only [List.length_cons, List.length_nil]; decide)
  match vs, hl with
  | [v, u], _ => exact ⟨by exact of_most (decide_eq_true hm), fun t ht => ⟨t, _, rfl, .inl (.inl upd_same), rfl, v, [u], rfl, u, [], rfl, rfl, q t ht⟩⟩
theorem ss_tupN3 (i j l : Nat) {x y w : Str} {a b c : Expr} {m : M (List PIt)} {px py pw pt pos : Pos} {kt k2 pt2} (hc : X.calm = true) (hN : X.N.Nodup) (ha : SP' X W T [a, b, c] m) (hw : swappedStores [.Tuple [.Name x px, .Name y py, .Name w pw] kt pt] (.Tuple [a, b, c] k2 pt2) X.env = pure none)
    (hi : X.N[i]? = some x := by rfl) (hj : X.N[j]? = some y := by rfl) (hk : X.N[l]? = some w := by rfl) (hx : Loc X.env.scope x := by first | exact Or.inl rfl | exact Or.inr rfl) (hy : Loc X.env.scope y := by first | exact Or.inl rfl | exact Or.inr rfl) (hz : Loc X.env.scope w := by first | exact Or.inl rfl | exact Or.inr rfl) (hT : ∀ n ∈ [i, j, l], n ∈ T := by decide)
    (hfx : X.fn x = true ∨ X.env.scope.names.lookup x = some .local := by first | exact .inl rfl | exact .inr rfl) (hfy : X.fn y = true ∨ X.env.scope.names.lookup y = some .local := by first | exact .inl rfl | exact .inr rfl) (hfw : X.fn w = true ∨ X.env.scope.names.lookup w = some .local := by first | exact .inl rfl | exact .inr rfl)
    (hs : swapsWithSole [.Tuple [.Name x px, .Name y py, .Name w pw] kt pt] (.Tuple [a, b, c] k2 pt2) pos.line X.env = pure false := by rfl)
    (h1 : (assignEach [.Tuple [.Name x px, .Name y py, .Name w pw] kt pt] X.env).map (·.2) = [assign (.Tuple [.Name x px, .Name y py, .Name w pw] kt pt) X.env] := by rfl)
    (hn : (assignEach [.Name x px, .Name y py, .Name w pw] X.env).length = 3 := by rfl) (hst : (assignEach [.Name x px, .Name y py, .Name w pw] X.env).findIdx? (·.1) = none := by rfl)
    (g1 : (assignEach [.Name x px, .Name y py, .Name w pw] X.env).map (·.2) = assign (.Name x px) X.env :: (assignEach [.Name y py, .Name w pw] X.env).map (·.2) := by rfl) (g2 : (assignEach [.Name y py, .Name w pw] X.env).map (·.2) = assign (.Name y py) X.env :: (assignEach [.Name w pw] X.env).map (·.2) := by rfl) (g3 : (assignEach [.Name w pw] X.env).map (·.2) = assign (.Name w pw) X.env :: (assignEach [] X.env).map (·.2) := by rfl) : SS X W T (.Assign [.Tuple [.Name x px, .Name y py, .Name w pw] kt pt] (.Tuple [a, b, c] k2 pt2) pos) (sParN [i, j, l] m) := by
  obtain ⟨ta, pa, ea⟩ := ha.ex
  refine ⟨_, ps_asg (pe_tup pa) (pg_tup hc (pgs_cons (pg_name hN hi hx hfx) (pgs_cons (pg_name hN hj hy hfy) (pgs_cons (pg_name hN hk hz hfw) pgs_nil g3) g2) g1) hn hst) hs hw h1, fun z Dn s p => ?_⟩
  refine tupN_run ea s hT p (fun vs y hl hm q => ?_) (by simp only [List.length_cons, List.length_nil]; decide)
  match vs, hl with
  | [v, u, o], _ => exact ⟨by exact of_most (decide_eq_true hm), fun t ht => ⟨t, _, rfl, .inl (.inl upd_same), rfl, v, [u, o], rfl, u, [o], rfl, o, [], rfl, rfl, q t ht⟩⟩
end
section
open PyProof.Rows
/-! enumerate with a start of a list or a tuple -/
/-- the list or the tuple at a, each item in a new pair behind its place and c -/
def IteF (K : PySem.W.Frag) (k : Bool) (c : Int) (a : Addr) : It :=
  ⟨fun i H => ∃ xs x, SqK K k H a xs ∧ xs[i]? = some x, fun i H v H' => ∃ t x, v = .ref t ∧ H t = none ∧ H' = upd H t (.tup [.int (c + (i : Nat)), x]) ∧ ∀ xs, SqK K k H a xs → xs[i]? = some x,
   fun i H => ∃ xs, SqK K k H a xs ∧ xs.length = i⟩
theorem turn_enF {P : Program} {w : World} {K : PySem.W.Frag} {k : Bool} {elts : List Expr} {kk : Nat} {tpos : Pos} {c : Int} (a e it : Addr) (hne : e ≠ it) (nai : a ≠ it) (nae : a ≠ e) :
    Turn P w K (.Tuple elts kk tpos) (IteF K k c a) [e, it] e (fun i h => (∃ old, IsEnum h e it (c + (i : Nat)) old) ∧ ItK k h it a i) := by
  refine ⟨by simp, fun i h st b hb => ?_, fun i h h' st kp => ?_, ?_, ?_, fun A i s Q E st h => ?_⟩
  · obtain ⟨⟨old, he⟩, hi⟩ := st
    obtain ⟨o, e1, q1, d1⟩ := it_ex hi
    rcases List.mem_cons.mp hb with z | z
    · rw [z]; exact ⟨_, he, fun v q => nomatch q⟩
    · rw [List.mem_singleton.mp z]; exact ⟨o, e1, fun v q => by rw [d1] at q; cases q⟩
  · obtain ⟨⟨old, he⟩, hi⟩ := st
    exact ⟨⟨old, kp e (by simp) _ he⟩, it_at hi fun o q => kp it (by simp) o q⟩
  · intro X hP hw hK hc i pins s σ H E I hf st hg
    subst hP hw hK
    obtain ⟨⟨old, he⟩, hit⟩ := st
    obtain ⟨xs, x, hq, hx⟩ := hg
    obtain ⟨its, rv, p⟩ := inv_k I hq
    obtain ⟨u, hu, ru⟩ := rv.get hx
    have hel : e < s.heap.objs.size := Heap.lt_size he
    have hil : it < s.heap.objs.size := by obtain ⟨_, q, _⟩ := it_ex hit; exact Heap.lt_size q
    have Dr := draws_k (k := k) (prog := X.prog) (w := X.w) (A := X.A.in1) (I.ok.hd hc) it a nai its.toArray
    have lt : i < its.toArray.size := by
      have := (List.getElem?_eq_some_iff.mp hu).1
      simpa using this
    refine wpAny_pyNext_enum_itemC Dr he ⟨hit, p⟩ lt hne (by simp [hne, Ne.symm nae]) fun x2 h' tk hx2 ho hst' hT hsz hk => ?_
    have ex : x2 = u := by
      have e1 : its.toArray[i]? = some x2 := hx2
      have e2 : its.toArray[i]? = some u := by simpa using hu
      rw [e1] at e2
      exact Option.some.inj e2
    subst ex
    refine ⟨_, rfl, wpAny_letOwnedTupleGo_enum (s := { s with heap := h', toks := tk + 1 }) ho fun h'' he' sb => ?_⟩
    have hT2 : h''.get? s.heap.objs.size = some { cls := .type "tuple", data := .seq #[.int (c + (i : Nat)) tk, x2] } := (sb.2 _ (Nat.ne_of_gt hel)).trans hT
    have hrel : Vals [V.int (c + (i : Nat)), x] [.int (c + (i : Nat)) tk, x2] := .cons ⟨tk, rfl⟩ (.cons ru .nil)
    have new : ObjOk X.prog X.w (upd H s.heap.objs.size (.tup [.int (c + (i : Nat)), x])) h'' s.heap.objs.size (.tup [.int (c + (i : Nat)), x]) := ⟨by show 2 ≤ sizeLine; decide, _, hrel, ⟨_, hT2, rfl, _, rfl⟩⟩
    have I1 : Inv X pins σ (upd H s.heap.objs.size (.tup [.int (c + (i : Nat)), x])) { s with heap := h'', toks := tk + 1 } := by
      refine I.turnedNew (ch := [e, it]) (fun b ob hb q => ?_) hf (Nat.le_refl _) new
      have b1 : b ≠ e := fun z => hb (by simp [z])
      have b2 : b ≠ it := fun z => hb (by simp [z])
      exact (sb.2 b b1).trans (hk b ob b1 b2 q)
    refine ⟨.ref s.heap.objs.size, _, I1, rfl, ⟨_, x, rfl, I.hok.fresh (Nat.le_refl _), rfl, fun ys hy => by rw [inj_k I hy hq]; exact hx⟩, ⟨⟨x2, ?_⟩, it_at hst'.1 fun o q => (sb.2 it (Ne.symm hne)).trans q⟩, fun b hb => ?_⟩
    · rw [show c + ((i + 1 : Nat) : Int) = c + (i : Nat) + 1 by omega]
      exact he'
    · have hb' : b < s.heap.objs.size := by
        rcases List.mem_cons.mp hb with z | z
        · rw [z]; exact hel
        · rw [List.mem_singleton.mp z]; exact hil
      rw [upd_ne (Nat.ne_of_lt hb')]
      exact (hf b hb).1
  · intro X hP hw hK hc i pins s σ H E I hf st hg
    subst hP hw hK
    obtain ⟨⟨old, he⟩, hit⟩ := st
    obtain ⟨xs, hq, hx⟩ := hg
    obtain ⟨its, rv, p⟩ := inv_k I hq
    obtain ⟨f0, f1, f2, f3, f4, f5⟩ := hf it (by simp)
    have Dr := draws_k (k := k) (prog := X.prog) (w := X.w) (A := X.A.in1) (I.ok.hd hc) it a nai its.toArray
    have hn : its.toArray.size = i := by rw [List.size_toArray, ← rv.length]; exact hx
    refine wpAny_pyNext_enum_endD Dr he (by rw [hn]; exact ⟨hit, p⟩) fun h' eb => ⟨rfl, I.turned (t' := s.toks) (fun b o hb q => eb b o hb q) f0 f1 f3 f4 f5⟩
  · obtain ⟨⟨_, he⟩, _⟩ := st
    exact wpAny_pyIter_enum he h
theorem pi_enumF {X : Cx} {e e2 : Expr} {ta : TA} {p pos tpos : Pos} {elts : List Expr} {kk : Nat} (hg : Gl X "enumerate") (hm : X.mg "enumerate" = none) (ha : PA X [e, e2] ta)
    (hs : starEach [e, e2] X.env = (false, eval e X.env) :: starEach [e2] X.env := by rfl) (hpl : (backTo pos (starEach [e2] X.env)).any (·.1) = false := by rfl) :
    PI X (.Tuple elts kk tpos) (.Call (.Name "enumerate" p) [e, e2] [] pos) (fun σ H R => ta σ H fun vs H1 => ∃ (k : Bool) (a : Addr) (xs : List V) (c : Int), vs = [.ref a, .int c] ∧ -(2 ^ 62) ≤ c ∧ c < 2 ^ 62 ∧ SqK X.K k H1 a xs ∧ R (IteF X.K k c a) H1) := by
  refine ⟨fun pins s σ H R I h => ?_⟩
  refine Call_ (ld_blt I hg hm PyProof.Rows.boot_enumerate (PyProof.Rows.callWith_type1 (thn (ha.run pos pins s σ H _ I h) fun us s1 ⟨vs, H1, I1, r1, q1⟩ => ?_) hs hpl))
  obtain ⟨k, a, xs, c, ex, c0, c1, hq, q⟩ := q1
  subst ex
  cases r1 with
  | cons r rr =>
    cases rr with
    | cons r' rr =>
      cases rr
      cases r
      obtain ⟨t, rfl⟩ := r'
      obtain ⟨its, rv, p1⟩ := inv_k I1 hq
      have la := is_lt p1
      refine enum_begins (begins_k (k := k) a its.toArray) p1 (by omega) (by omega) fun h' he hit hsz hk => wpAny_pyIter_enum he ?_
      have fresh : ∀ b ∈ [s1.heap.objs.size + 1, s1.heap.objs.size], FpOk X pins H1 b := fun b hb => by
        have hle : s1.heap.objs.size ≤ b := by
          rcases List.mem_cons.mp hb with z | z
          · rw [z]; exact Nat.le_succ _
          · rw [List.mem_singleton.mp z]; exact Nat.le_refl _
        exact I1.fpOk hle (I1.hok.fresh hle)
      exact ⟨_, _, _, _, H1, rfl, I1.kept (t' := s1.toks) hk, turn_enF a _ _ (Nat.succ_ne_self _) (Nat.ne_of_lt la) (Nat.ne_of_lt (Nat.lt_succ_of_lt la)), ⟨⟨.none, by rw [show c + ((0 : Nat) : Int) = c by omega]; exact he⟩, it_0 hit⟩, fresh, q⟩
theorem walk_enF {K : PySem.W.Frag} {k : Bool} {a : Addr} {c : Int} {xs : List V} : Walk (IteF K k c a) xs.length (fun H => SqK K k H a xs) (YPair (fun i => some (.int (c + (i : Nat)))) (fun i => xs[i]?)) := by
  refine ⟨fun i _ hi q => ⟨xs, xs[i], q, by simp [hi]⟩, fun _ q => ⟨xs, q, rfl⟩, fun i H v H' _ q y => ?_⟩
  obtain ⟨t, x, h1, h2, h3, h4⟩ := y
  exact ⟨t, _, x, h1, h2, h3, rfl, h4 xs q⟩
end
section
variable {X : Cx} {W : WX} {T : List Nat} {K : PySem.W.Frag}
/-- the items with their places from c on -/
def enumC (c : Int) (ds : List D) : List D := (List.range ds.length).map fun i => .tup [.int (c + (i : Nat)), ds.getD i .non]
theorem enumC_get {c : Int} {ds : List D} {i : Nat} {d : D} (h : ds[i]? = some d) : (enumC c ds)[i]? = some (.tup [.int (c + (i : Nat)), d]) := by
  obtain ⟨hl, _⟩ := List.getElem?_eq_some_iff.mp h
  unfold enumC
  rw [List.getElem?_map, List.getElem?_range hl]
  show some (D.tup [.int (c + (i : Nat)), ds.getD i .non]) = _
  rw [List.getD_eq_getElem?_getD, h]
  rfl
theorem enumC_len (c : Int) (ds : List D) : (enumC c ds).length = ds.length := by unfold enumC; rw [List.length_map, List.length_range]
theorem walkEC {a : Addr} {c : Int} {vs : List V} {ds : List D} {y : Cf} {J : It} {G : Hp → Prop} (w : Walk J vs.length G (YPair (fun i => some (.int (c + (i : Nat)))) (fun i => vs[i]?))) (r : RepL K y.F vs ds) (hG : ∀ z : Cf, RSt K z → Same y.F z.F → G z.H) : WalkD K J (enumC c ds) y := by
  refine ⟨G, _, by rw [enumC_len, ← r.length]; exact w, hG, fun i z v H' s e q => ?_⟩
  have q' := q
  obtain ⟨_, _, _, _, _, _, _, h5⟩ := q'
  obtain ⟨d, h6, h7⟩ := r.get' h5
  obtain ⟨z', a1, a2, a3⟩ := pair_step (d := .int (c + (i : Nat))) (e := d) s q (fun x hx => by cases hx; exact .int _) (fun y' hy => by
    have h8 : vs[i]? = some y' := hy
    have h9 : vs[i]? = some _ := h5
    rw [h9] at h8
    cases h8
    exact h7.mono e)
  exact ⟨z', _, a1, a2, enumC_get h6, a3⟩
def enum2 : List D → Option (List D)
  | [d, .int c] => if rgOk c then (rowD d).map (enumC c) else none
  | _ => none
theorem si_enum2 {e e2 : Expr} {f : M (List D)} {p pos tpos : Pos} {elts : List Expr} {kk : Nat} (hm : X.mg "enumerate" = none) (ha : SD X W T [e, e2] f) (hg : Gl X "enumerate" := by rfl)
    (hs : starEach [e, e2] X.env = (false, eval e X.env) :: starEach [e2] X.env := by rfl) (hpl : (backTo pos (starEach [e2] X.env)).any (·.1) = false := by rfl) : SI X W T (.Tuple elts kk tpos) (.Call (.Name "enumerate" p) [e, e2] [] pos) (iOf enum2 f) := by
  obtain ⟨ta, pa, ea⟩ := ha.ex
  refine ⟨_, pi_enumF hg hm pa hs hpl, fun x R s p => ?_⟩
  refine ea.bind s p fun ds y f1 s1 e1 vs hv p1 => ?_
  cases q : enum2 ds with
  | none => rw [q] at p1; exact p1.elim
  | some es =>
    rw [q] at p1
    have p2 := p1 y rfl (Fr.refl T y) s1 e1
    match ds, hv, q with
    | [d, .int c], .cons hd (.cons hc .nil), q =>
      cases hc
      have q : (if rgOk c then (rowD d).map (enumC c) else none) = some es := q
      by_cases ck : rgOk c = true
      · rw [if_pos ck] at q
        cases g : rowD d with
        | none => rw [g] at q; cases q
        | some gs =>
          rw [g] at q
          cases q
          obtain ⟨a, us, rfl, r, h | h⟩ := row_cases hd g
          · exact ⟨false, a, us, c, rfl, (rgOk_62 ck).1, (rgOk_62 ck).2, s1.sub.seq h, p2 _ (walkEC (a := a) (walk_enF (k := false)) r fun z sz ez => sz.sub.seq (ez.seq h))⟩
          · exact ⟨true, a, us, c, rfl, (rgOk_62 ck).1, (rgOk_62 ck).2, sameT s1.sub h, p2 _ (walkEC (a := a) (walk_enF (k := true)) r fun z sz ez => sameT sz.sub (sameT ez h))⟩
      · rw [if_neg ck] at q
        cases q
end
end FL
namespace FL
open PySem PySem.Spec L2
noncomputable section
/-- is_whole(value): slots value -/
def B_is_whole : M Fl := (sRet (xAnd (xB isB (dCons (xVar 0) (dCons (xC (.opq (.ty "int"))) (mP [])))) (xNot (xB isB (dCons (xVar 0) (dCons (xC (.opq (.ty "bool"))) (mP [])))))))
def F_is_whole : List Ent → R D := defF none false 1 B_is_whole
/-- is_between(value, low, high): slots value, low, high -/
def B_is_between : M Fl := (sRet (xAnd (callD 1 F_is_whole (dCons (xVar 0) (mP []))) (xChain leD leD (xVar 1) (xVar 0) (xVar 2))))
def F_is_between : List Ent → R D := defF none false 3 B_is_between
/-- is_tuple_of(value, many): slots value, many -/
def B_is_tuple_of : M Fl := (sRet (xAnd (xB isB (dCons (xVar 0) (dCons (xC (.opq (.ty "tuple"))) (mP [])))) (x2 eqD (xB lenB (dCons (xVar 0) (mP []))) (xVar 1))))
def F_is_tuple_of : List Ent → R D := defF none false 2 B_is_tuple_of
/-- is_floor(value): slots value -/
def B_is_floor : M Fl := (sRet (callD 3 F_is_between (dCons (xVar 0) (dCons (x1 negD (xC (.int 9999))) (dCons (xC (.int 9999)) (mP []))))))
def F_is_floor : List Ent → R D := defF none false 1 B_is_floor
/-- first_wrong__is_floor(value, fewest, most, is_right): slots value, fewest, most, is_right, index, each -/
def B_first_wrong__is_floor : M Fl := (sSeq (sIf (tOrM (tNotM (mTru (xB isB (dCons (xVar 0) (dCons (xC (.opq (.ty "tuple"))) (mP [])))))) (tNotM (mT (xChain leD leD (xVar 1) (xB lenB (dCons (xVar 0) (mP []))) (xVar 2))))) (sRet (xFz (lLst (dCons (xC .non) (mP []))))) (mP .nx)) (sRet (xCut (xFz (lComp [4, 5] (iOf enum1 (dCons (xVar 0) (mP []))) (gsTup 2 (gsCons (setv 4) (gsCons (setv 5) gsNil))) (tNotM (mTru (callP 3 "is_floor" 1 F_is_floor (dCons (xVar 5) (mP []))))) (xVar 4))) (mP none) (oInt (xC (.int 1))))))
def F_first_wrong__is_floor : List Ent → R D := defF none false 6 B_first_wrong__is_floor
/-- fraction(number, under): slots number, under, part -/
def B_fraction : M Fl := (sSeq (sSet 2 (x2 mulD (xB gcdB (dCons (xVar 0) (dCons (xVar 1) (mP [])))) (xIf (mT (x2 gtD (xVar 1) (xC (.int 0)))) (xC (.int 1)) (x1 negD (xC (.int 1)))))) (sRet (xTup (dCons (x2 divD (xVar 0) (xVar 2)) (dCons (x2 divD (xVar 1) (xVar 2)) (mP []))))))
def F_fraction : List Ent → R D := defF none false 3 B_fraction
/-- is_fraction_by(value): slots value -/
def B_is_fraction_by : M Fl := (sSeq (sIf (tOrM (tNotM (mTru (callD 2 F_is_tuple_of (dCons (xVar 0) (dCons (xC (.int 2)) (mP [])))))) (tOrM (tNotM (mTru (callD 1 F_is_whole (dCons (x2 ixD (xVar 0) (xC (.int 0))) (mP []))))) (tOrM (tNotM (mTru (callD 1 F_is_whole (dCons (x2 ixD (xVar 0) (xC (.int 1))) (mP []))))) (mT (x2 leD (x2 ixD (xVar 0) (xC (.int 1))) (xC (.int 0))))))) (sRet (xC (.bl false))) (mP .nx)) (sRet (x2 eqD (xB gcdB (dCons (x2 ixD (xVar 0) (xC (.int 0))) (dCons (x2 ixD (xVar 0) (xC (.int 1))) (mP [])))) (xC (.int 1)))))
def F_is_fraction_by : List Ent → R D := defF none false 1 B_is_fraction_by
/-- whole(number): slots number -/
def B_whole : M Fl := (sRet (xTup (dCons (xVar 0) (dCons (xC (.int 1)) (mP [])))))
def F_whole : List Ent → R D := defF none false 1 B_whole
/-- sum_of(one, two): slots one, two -/
def B_sum_of : M Fl := (sRet (callD 2 F_fraction (dCons (x2 addD (x2 mulD (x2 ixD (xVar 0) (xC (.int 0))) (x2 ixD (xVar 1) (xC (.int 1)))) (x2 mulD (x2 ixD (xVar 1) (xC (.int 0))) (x2 ixD (xVar 0) (xC (.int 1))))) (dCons (x2 mulD (x2 ixD (xVar 0) (xC (.int 1))) (x2 ixD (xVar 1) (xC (.int 1)))) (mP [])))))
def F_sum_of : List Ent → R D := defF none false 2 B_sum_of
/-- less(one, two): slots one, two -/
def B_less : M Fl := (sRet (callD 2 F_fraction (dCons (x2 subD (x2 mulD (x2 ixD (xVar 0) (xC (.int 0))) (x2 ixD (xVar 1) (xC (.int 1)))) (x2 mulD (x2 ixD (xVar 1) (xC (.int 0))) (x2 ixD (xVar 0) (xC (.int 1))))) (dCons (x2 mulD (x2 ixD (xVar 0) (xC (.int 1))) (x2 ixD (xVar 1) (xC (.int 1)))) (mP [])))))
def F_less : List Ent → R D := defF none false 2 B_less
/-- is_less(one, two): slots one, two -/
def B_is_less : M Fl := (sRet (x2 ltD (x2 mulD (x2 ixD (xVar 0) (xC (.int 0))) (x2 ixD (xVar 1) (xC (.int 1)))) (x2 mulD (x2 ixD (xVar 1) (xC (.int 0))) (x2 ixD (xVar 0) (xC (.int 1))))))
def F_is_less : List Ent → R D := defF none false 2 B_is_less
/-- total(some): slots some, found, each -/
def B_total : M Fl := (sSeq (sSet 1 (xC (.tup [(.int 0), (.int 1)]))) (sSeq (sFor (iRow (xVar 0)) (setv 2) (sSet 1 (callD 2 F_sum_of (dCons (xVar 1) (dCons (xVar 2) (mP [])))))) (sRet (xVar 1))))
def F_total : List Ent → R D := defF none false 3 B_total
/-- check_fraction(value): slots value -/
def B_check_fraction : M Fl := (sIf (tNotM (mTru (callD 1 F_is_fraction_by (dCons (xVar 0) (mP []))))) sBad (mP .nx))
def F_check_fraction : List Ent → R D := defF none false 1 B_check_fraction
/-- check_number(value, low, high): slots value, low, high -/
def B_check_number : M Fl := (sIf (tNotM (mTru (callD 3 F_is_between (dCons (xVar 0) (dCons (xVar 1) (dCons (xVar 2) (mP []))))))) sBad (mP .nx))
def F_check_number : List Ent → R D := defF none false 3 B_check_number
/-- flood_level_by(floors, poured): slots floors, poured, low, levels, many, level -/
def B_flood_level_by : M Fl := (sSeq (sIf (mT (x2 eqD (xVar 1) (xC (.int 0)))) (sRet (xC .non)) (mP .nx)) (sSeq (sSet 2 (xFz (lB sortB (dCons (xVar 0) (mP []))))) (sSeq (sSet 3 (xFz (lComp [4] (iOf range2 (dCons (xC (.int 1)) (dCons (x2 addD (xB lenB (dCons (xVar 2) (mP []))) (xC (.int 1))) (mP [])))) (setv 4) (mP true) (callD 2 F_fraction (dCons (x2 addD (xVar 1) (xB sumB (dCons (xCut (xVar 2) (mP none) (oInt (xVar 4))) (mP [])))) (dCons (xVar 4) (mP []))))))) (sSeq (sFor (iOf enum2 (dCons (xCut (xVar 3) (mP none) (oInt (x1 negD (xC (.int 1))))) (dCons (xC (.int 1)) (mP [])))) (gsTup 2 (gsCons (setv 4) (gsCons (setv 5) gsNil))) (sIf (tNotM (mTru (callD 2 F_is_less (dCons (callD 1 F_whole (dCons (x2 ixD (xVar 2) (xVar 4)) (mP []))) (dCons (xVar 5) (mP [])))))) (sRet (xVar 5)) (mP .nx))) (sRet (x2 ixD (xVar 3) (x1 negD (xC (.int 1)))))))))
def F_flood_level_by : List Ent → R D := defF none false 6 B_flood_level_by
/-- depth_at(floor, level): slots floor, level, found -/
def B_depth_at : M Fl := (sSeq (sSet 2 (callD 2 F_less (dCons (xVar 1) (dCons (callD 1 F_whole (dCons (xVar 0) (mP []))) (mP []))))) (sRet (xIf (mT (x2 gtD (x2 ixD (xVar 2) (xC (.int 0))) (xC (.int 0)))) (xVar 2) (xC (.tup [(.int 0), (.int 1)])))))
def F_depth_at : List Ent → R D := defF none false 3 B_depth_at
/-- waters_by(floors, poured): slots floors, poured, level, floor -/
def B_waters_by : M Fl := (sSeq (sSet 2 (callD 2 F_flood_level_by (dCons (xVar 0) (dCons (xVar 1) (mP []))))) (sRet (xB tupB (dCons (xFz (lComp [3] (iRow (xVar 0)) (setv 3) (mP true) (xIf (mT (x2 notNoneD (xVar 2) (xC .non))) (callD 2 F_depth_at (dCons (xVar 3) (dCons (xVar 2) (mP [])))) (xC (.tup [(.int 0), (.int 1)]))))) (mP [])))))
def F_waters_by : List Ent → R D := defF none false 4 B_waters_by
/-- poured_for_by(floors, level): slots floors, level, floor -/
def B_poured_for_by : M Fl := (sRet (callD 1 F_total (dCons (xFz (lComp [2] (iRow (xVar 0)) (setv 2) (mP true) (callD 2 F_depth_at (dCons (xVar 2) (dCons (xVar 1) (mP [])))))) (mP []))))
def F_poured_for_by : List Ent → R D := defF none false 3 B_poured_for_by
/-- check_floors(value): slots value, index -/
def B_check_floors : M Fl := (sFor (iRow (callD 4 F_first_wrong__is_floor (dCons (xVar 0) (dCons (xC (.int 1)) (dCons (xC (.int 9)) (dCons (xC (.dfn "is_floor")) (mP []))))))) (setv 1) sBad)
def F_check_floors : List Ent → R D := defF none false 2 B_check_floors
/-- check_flood(floors, number): slots floors, number -/
def B_check_flood : M Fl := (sSeq (sExpr (callD 1 F_check_floors (dCons (xVar 0) (mP [])))) (sExpr (callD 3 F_check_number (dCons (xVar 1) (dCons (xC (.int 0)) (dCons (xC (.int 9999)) (mP [])))))))
def F_check_flood : List Ent → R D := defF none false 2 B_check_flood
/-- waters(floors, number): slots floors, number -/
def B_waters : M Fl := (sSeq (sExpr (callD 2 F_check_flood (dCons (xVar 0) (dCons (xVar 1) (mP []))))) (sRet (callD 2 F_waters_by (dCons (xVar 0) (dCons (xVar 1) (mP []))))))
def F_waters : List Ent → R D := defF none false 2 B_waters
/-- flood_level(floors, number): slots floors, number -/
def B_flood_level : M Fl := (sSeq (sExpr (callD 2 F_check_flood (dCons (xVar 0) (dCons (xVar 1) (mP []))))) (sRet (callD 2 F_flood_level_by (dCons (xVar 0) (dCons (xVar 1) (mP []))))))
def F0_flood_level : List Ent → R D := defF none false 2 B_flood_level
theorem FW_flood_level : ∃ f : List Ent → R D, f = F0_flood_level := ⟨F0_flood_level, rfl⟩
def F_flood_level : List Ent → R D := Classical.choose FW_flood_level
theorem Fe_flood_level : F_flood_level = F0_flood_level := Classical.choose_spec FW_flood_level
/-- poured_for(floors, fraction): slots floors, fraction -/
def B_poured_for : M Fl := (sSeq (sExpr (callD 1 F_check_floors (dCons (xVar 0) (mP [])))) (sSeq (sExpr (callD 1 F_check_fraction (dCons (xVar 1) (mP [])))) (sRet (callD 2 F_poured_for_by (dCons (xVar 0) (dCons (xVar 1) (mP [])))))))
def F0_poured_for : List Ent → R D := defF none false 2 B_poured_for
theorem FW_poured_for : ∃ f : List Ent → R D, f = F0_poured_for := ⟨F0_poured_for, rfl⟩
def F_poured_for : List Ent → R D := Classical.choose FW_poured_for
theorem Fe_poured_for : F_poured_for = F0_poured_for := Classical.choose_spec FW_poured_for
/-- _law_well(script, lap): slots script, lap, own, stir, each -/
def B__law_well : M Fl := (sSeq (sSet 2 (xIf (mT (x2 ltD (xVar 1) (xB lenB (dCons (xVar 0) (mP []))))) (xB intB (dCons (x2 ixD (xVar 0) (xVar 1)) (mP []))) (xC (.int 0)))) (sSeq (sSet 3 (x2 addD (xC (.int 52027)) (x2 mulD (xC (.int 6971)) (xVar 1)))) (sSeq (sFor (iRow (x2 addD (xCut (xVar 0) (mP none) (oInt (xC (.int 8)))) (xFz (lLst (dCons (xVar 2) (mP [])))))) (setv 4) (sSet 3 (x2 modD (xB intB (dCons (x2 addD (x2 addD (x2 mulD (xVar 3) (xC (.int 44497))) (x2 modD (xB intB (dCons (xVar 4) (mP []))) (xC (.int 2147483587)))) (xC (.int 29))) (mP []))) (xC (.int 2147483563))))) (sRetL (lLst (dCons (xIf (tOrM (mT (x2 ltD (xVar 2) (xC (.int 0)))) (mT (x2 geD (xVar 2) (x2 powD (xC (.int 10)) (xC (.int 18)))))) (xB absB (dCons (xVar 2) (mP []))) (xC (.int 0))) (dCons (xVar 3) (dCons (xC (.int 0)) (mP [])))))))))
def F__law_well : List Ent → R D := defF none true 5 B__law_well
/-- _law_take(well, many): slots well, many, digit -/
def B__law_take : M Fl := (sSeq (sIf (mT (x2 gtD (lend [] 0 noLst (x2 ixD (xVar 0) (xC (.int 0)))) (xC (.int 0)))) (sSeq (sAsg (xB dmB (dCons (lend [] 0 noLst (x2 ixD (xVar 0) (xC (.int 0)))) (dCons (xVar 1) (mP [])))) (gsTup 2 (gsCons (gsSub 0 (xC (.int 0))) (gsCons (setv 2) gsNil)))) (sRet (xVar 2))) (mP .nx)) (sSeq (sAsg (x2 addD (lend [] 0 noLst (x2 ixD (xVar 0) (xC (.int 2)))) (xC (.int 1))) (gsSub 0 (xC (.int 2)))) (sSeq (sAsg (x2 modD (xB intB (dCons (x2 addD (x2 addD (x2 mulD (lend [] 0 noLst (x2 ixD (xVar 0) (xC (.int 1)))) (xC (.int 39373))) (x2 mulD (lend [] 0 noLst (x2 ixD (xVar 0) (xC (.int 2)))) (xC (.int 30323)))) (xC (.int 11))) (mP []))) (xC (.int 2147483543))) (gsSub 0 (xC (.int 1)))) (sRet (x2 modD (xB intB (dCons (x2 divD (lend [] 0 noLst (x2 ixD (xVar 0) (xC (.int 1)))) (xC (.int 128))) (mP []))) (xVar 1))))))
def F__law_take : List Ent → R D := defF (some 0) false 3 B__law_take
/-- _law_of(well, things): slots well, things -/
def B__law_of : M Fl := (sRet (x2 ixD (xVar 1) (callI 2 0 [0, 1] F__law_take (aLate 0 (aVal (xB lenB (dCons (xVar 1) (mP []))) (mP []))))))
def F__law_of : List Ent → R D := defF (some 0) false 2 B__law_of
/-- _law_same(told, due): slots told, due, at -/
def B__law_same (FR : List Ent → R D) : M Fl := (sSeq (sIf (tOrM (tAndM (mTru (xB isB (dCons (xVar 1) (dCons (xC (.opq (.ty "tuple"))) (mP []))))) (tNotM (mTru (xB isB (dCons (xVar 0) (dCons (xC (.opq (.ty "tuple"))) (mP []))))))) (tAndM (mTru (xB isB (dCons (xVar 1) (dCons (xC (.opq (.ty "list"))) (mP []))))) (tNotM (mTru (xB isB (dCons (xVar 0) (dCons (xC (.opq (.ty "list"))) (mP [])))))))) (sRet (xC (.bl false))) (mP .nx)) (sSeq (sIf (mTru (xIsT ["tuple", "list"] (xVar 1))) (sRet (xAnd (x2 eqD (xB lenB (dCons (xVar 0) (mP []))) (xB lenB (dCons (xVar 1) (mP [])))) (xB allB (dCons (xFz (lComp [2] (iOf range1 (dCons (xB lenB (dCons (xVar 1) (mP []))) (mP []))) (setv 2) (mP true) (callD 2 FR (dCons (x2 ixD (xVar 0) (xVar 2)) (dCons (x2 ixD (xVar 1) (xVar 2)) (mP [])))))) (mP []))))) (mP .nx)) (sSeq (sIf (tOrM (mT (x2 isNoneD (xVar 1) (xC .non))) (mT (x2 isNoneD (xVar 0) (xC .non)))) (sRet (xAnd (x2 isNoneD (xVar 1) (xC .non)) (x2 isNoneD (xVar 0) (xC .non)))) (mP .nx)) (sSeq (sIf (tOrM (mTru (xB isB (dCons (xVar 1) (dCons (xC (.opq (.ty "bool"))) (mP []))))) (mTru (xB isB (dCons (xVar 0) (dCons (xC (.opq (.ty "bool"))) (mP [])))))) (sRet (xAnd (xB isB (dCons (xVar 1) (dCons (xC (.opq (.ty "bool"))) (mP [])))) (xAnd (xB isB (dCons (xVar 0) (dCons (xC (.opq (.ty "bool"))) (mP [])))) (x2 eqD (xVar 1) (xVar 0))))) (mP .nx)) (sSeq (sIf (mTru (xB isB (dCons (xVar 1) (dCons (xC (.opq (.ty "int"))) (mP []))))) (sRet (xAnd (xB isB (dCons (xVar 0) (dCons (xC (.opq (.ty "int"))) (mP [])))) (x2 eqD (xVar 0) (xVar 1)))) (mP .nx)) (sSeq (sIf (mTru (xB isB (dCons (xVar 1) (dCons (xC (.opq (.ty "str"))) (mP []))))) (sRet (xAnd (xB isB (dCons (xVar 0) (dCons (xC (.opq (.ty "str"))) (mP [])))) (x2 eqD (xVar 0) (xVar 1)))) (mP .nx)) (sRet (xAnd (xB isB (dCons (xVar 1) (dCons (xC (.opq (.ty "dict"))) (mP [])))) (xAnd (xB isB (dCons (xVar 0) (dCons (xC (.opq (.ty "dict"))) (mP [])))) (xAnd (x2 eqD (xB lenB (dCons (xVar 0) (mP []))) (xB lenB (dCons (xVar 1) (mP [])))) (x2 eqD (xVar 0) (xVar 1))))))))))))
def F__law_same : Nat → List Ent → R D
  | 0 => fBad
  | n + 1 => defF none false 3 (B__law_same (F__law_same n))
/-- _law_part(one, two): slots one, two, low, high -/
def B__law_part : M Fl := (sSeq (sIf (mT (x2 ltD (xVar 1) (xC (.int 0)))) (sPar2 0 1 (dCons (x2 subD (xC (.int 0)) (xVar 0)) (dCons (x2 subD (xC (.int 0)) (xVar 1)) (mP [])))) (mP .nx)) (sSeq (sPar2 2 3 (dCons (xB absB (dCons (xVar 0) (mP []))) (dCons (xVar 1) (mP [])))) (sSeq (whileD (mT (x2 gtD (xVar 3) (xC (.int 0)))) (sPar2 2 3 (dCons (xVar 3) (dCons (x2 modD (xB intB (dCons (xVar 2) (mP []))) (xVar 3)) (mP [])))) 1000) (sRet (xTup (dCons (x2 divD (xVar 0) (xVar 2)) (dCons (x2 divD (xVar 1) (xVar 2)) (mP []))))))))
def F__law_part : List Ent → R D := defF none false 4 B__law_part
/-- _law_plus(one, two): slots one, two -/
def B__law_plus : M Fl := (sRet (callD 2 F__law_part (dCons (x2 addD (x2 mulD (x2 ixD (xVar 0) (xC (.int 0))) (x2 ixD (xVar 1) (xC (.int 1)))) (x2 mulD (x2 ixD (xVar 1) (xC (.int 0))) (x2 ixD (xVar 0) (xC (.int 1))))) (dCons (x2 mulD (x2 ixD (xVar 0) (xC (.int 1))) (x2 ixD (xVar 1) (xC (.int 1)))) (mP [])))))
def F__law_plus : List Ent → R D := defF none false 2 B__law_plus
/-- _law_less(one, two): slots one, two -/
def B__law_less : M Fl := (sRet (callD 2 F__law_part (dCons (x2 subD (x2 mulD (x2 ixD (xVar 0) (xC (.int 0))) (x2 ixD (xVar 1) (xC (.int 1)))) (x2 mulD (x2 ixD (xVar 1) (xC (.int 0))) (x2 ixD (xVar 0) (xC (.int 1))))) (dCons (x2 mulD (x2 ixD (xVar 0) (xC (.int 1))) (x2 ixD (xVar 1) (xC (.int 1)))) (mP [])))))
def F__law_less : List Ent → R D := defF none false 2 B__law_less
/-- _law_is_below(one, two): slots one, two -/
def B__law_is_below : M Fl := (sRet (x2 ltD (x2 mulD (x2 ixD (xVar 0) (xC (.int 0))) (x2 ixD (xVar 1) (xC (.int 1)))) (x2 mulD (x2 ixD (xVar 1) (xC (.int 0))) (x2 ixD (xVar 0) (xC (.int 1))))))
def F__law_is_below : List Ent → R D := defF none false 2 B__law_is_below
/-- _law_total(some): slots some, found, each -/
def B__law_total : M Fl := (sSeq (sSet 1 (xTup (dCons (xC (.int 0)) (dCons (xC (.int 1)) (mP []))))) (sSeq (sFor (iRow (xVar 0)) (setv 2) (sSet 1 (callD 2 F__law_plus (dCons (xVar 1) (dCons (xVar 2) (mP [])))))) (sRet (xVar 1))))
def F__law_total : List Ent → R D := defF none false 3 B__law_total
/-- _law_floors(well, most): slots well, most, great, each -/
def B__law_floors : M Fl := (sSeq (sSet 2 (callI 2 0 [0, 1, 2, 3] F__law_of (aLate 0 (aVal (xTup (dCons (xC (.int 3)) (dCons (xC (.int 9)) (dCons (xC (.int 9999)) (mP []))))) (mP []))))) (sRet (xB tupB (dCons (xFz (lComp [3] (iOf range1 (dCons (x2 addD (xC (.int 1)) (callI 2 0 [0, 1, 2, 3] F__law_take (aLate 0 (aVal (xVar 1) (mP []))))) (mP []))) (setv 3) (mP true) (x2 subD (callI 2 0 [0, 1, 2, 3] F__law_take (aLate 0 (aVal (x2 addD (x2 mulD (xC (.int 2)) (xVar 2)) (xC (.int 1))) (mP [])))) (xVar 2)))) (mP [])))))
def F__law_floors : List Ent → R D := defF (some 0) false 4 B__law_floors
/-- _law_waters(floors, poured): slots floors, poured, low, many, level, floor -/
def B__law_waters : M Fl := (sSeq (sIf (mT (x2 eqD (xVar 1) (xC (.int 0)))) (sRet (xTup (dCons (xB tupB (dCons (xFz (lComp [5] (iRow (xVar 0)) (setv 5) (mP true) (xTup (dCons (xC (.int 0)) (dCons (xC (.int 1)) (mP [])))))) (mP []))) (dCons (xC .non) (mP []))))) (mP .nx)) (sSeq (sSet 2 (xFz (lB sortB (dCons (xVar 0) (mP []))))) (sSeq (sFor (iOf range2 (dCons (xC (.int 1)) (dCons (x2 addD (xB lenB (dCons (xVar 2) (mP []))) (xC (.int 1))) (mP [])))) (setv 3) (sSeq (sSet 4 (callD 2 F__law_part (dCons (x2 addD (xVar 1) (xB sumB (dCons (xCut (xVar 2) (mP none) (oInt (xVar 3))) (mP [])))) (dCons (xVar 3) (mP []))))) (sIf (tOrM (mT (x2 eqD (xVar 3) (xB lenB (dCons (xVar 2) (mP []))))) (tNotM (mTru (callD 2 F__law_is_below (dCons (xTup (dCons (x2 ixD (xVar 2) (xVar 3)) (dCons (xC (.int 1)) (mP [])))) (dCons (xVar 4) (mP []))))))) (sRet (xTup (dCons (xB tupB (dCons (xFz (lComp [5] (iRow (xVar 0)) (setv 5) (mP true) (xIf (mTru (callD 2 F__law_is_below (dCons (xTup (dCons (xVar 5) (dCons (xC (.int 1)) (mP [])))) (dCons (xVar 4) (mP []))))) (callD 2 F__law_less (dCons (xVar 4) (dCons (xTup (dCons (xVar 5) (dCons (xC (.int 1)) (mP [])))) (mP [])))) (xTup (dCons (xC (.int 0)) (dCons (xC (.int 1)) (mP []))))))) (mP []))) (dCons (xVar 4) (mP []))))) (mP .nx)))) (sRet (xC .non)))))
def F__law_waters : List Ent → R D := defF none false 6 B__law_waters
/-- _law_poured_for(floors, height): slots floors, height, floor -/
def B__law_poured_for : M Fl := (sRet (callD 1 F__law_total (dCons (xFz (lComp [2] (iRow (xVar 0)) (setv 2) (mTru (callD 2 F__law_is_below (dCons (xTup (dCons (xVar 2) (dCons (xC (.int 1)) (mP [])))) (dCons (xVar 1) (mP []))))) (callD 2 F__law_less (dCons (xVar 1) (dCons (xTup (dCons (xVar 2) (dCons (xC (.int 1)) (mP [])))) (mP [])))))) (mP []))))
def F__law_poured_for : List Ent → R D := defF none false 3 B__law_poured_for
/-- _law_is_told(well, floors, poured, height): slots well, floors, poured, height, due, told, own, rows, k -/
def B__law_is_told : M Fl := (sSeq (sSet 4 (x2 ixD (callD 2 F__law_waters (dCons (xVar 1) (dCons (xVar 2) (mP [])))) (xC (.int 1)))) (sSeq (sSet 5 (xIf (mT (x2 eqD (callI 2 0 [0, 1, 2, 3, 4, 5, 6, 7, 8] F__law_take (aLate 0 (aVal (xC (.int 2)) (mP [])))) (xC (.int 0)))) (callD 2 F_flood_level (dCons (xVar 1) (dCons (xVar 2) (mP [])))) (callKw 2 2 [1, 0] F_flood_level (dCons (xVar 2) (dCons (xVar 1) (mP [])))))) (sSeq (sIf (tOrM (tNotM (mTru (callD 2 (F__law_same 10) (dCons (xVar 5) (dCons (xVar 4) (mP [])))))) (mT (x2 neD (x2 isNoneD (xVar 5) (xC .non)) (x2 eqD (xVar 2) (xC (.int 0)))))) (sRet (xC (.bl false))) (mP .nx)) (sSeq (sIf (mT (x2 notNoneD (xVar 5) (xC .non))) (sSeq (sSet 7 (callD 2 F_waters (dCons (xVar 1) (dCons (xVar 2) (mP []))))) (sSeq (sIf (tOrM (mT (x2 neD (callD 2 F_poured_for (dCons (xVar 1) (dCons (xVar 5) (mP [])))) (xTup (dCons (xVar 2) (dCons (xC (.int 1)) (mP [])))))) (mTru (xB anyB (dCons (xFz (lComp [8] (iOf range1 (dCons (xB lenB (dCons (xVar 1) (mP []))) (mP []))) (setv 8) (mP true) (xAnd (x2 gtD (x2 ixD (x2 ixD (xVar 7) (xVar 8)) (xC (.int 0))) (xC (.int 0))) (x2 neD (callD 2 F__law_plus (dCons (xTup (dCons (x2 ixD (xVar 1) (xVar 8)) (dCons (xC (.int 1)) (mP [])))) (dCons (x2 ixD (xVar 7) (xVar 8)) (mP [])))) (xVar 5))))) (mP []))))) (sRet (xC (.bl false))) (mP .nx)) (sIf (tAndM (mT (x2 ltD (xVar 2) (xC (.int 9999)))) (tNotM (mTru (callD 2 F__law_is_below (dCons (xVar 5) (dCons (callD 2 F_flood_level (dCons (xVar 1) (dCons (x2 addD (xVar 2) (xC (.int 1))) (mP [])))) (mP []))))))) (sRet (xC (.bl false))) (mP .nx)))) (mP .nx)) (sSeq (sSet 6 (xIf (mT (x2 eqD (callI 2 0 [0, 1, 2, 3, 4, 5, 6, 7, 8] F__law_take (aLate 0 (aVal (xC (.int 2)) (mP [])))) (xC (.int 0)))) (callD 2 F_poured_for (dCons (xVar 1) (dCons (xVar 3) (mP [])))) (callKw 2 2 [1, 0] F_poured_for (dCons (xVar 3) (dCons (xVar 1) (mP [])))))) (sSeq (sIf (tNotM (mTru (callD 2 (F__law_same 10) (dCons (xVar 6) (dCons (callD 2 F__law_poured_for (dCons (xVar 1) (dCons (xVar 3) (mP [])))) (mP [])))))) (sRet (xC (.bl false))) (mP .nx)) (sRet (xAnd (xNot (callD 2 F__law_is_below (dCons (callD 2 F_poured_for (dCons (xVar 1) (dCons (callD 2 F__law_plus (dCons (xVar 3) (dCons (xTup (dCons (xC (.int 1)) (dCons (xC (.int 2)) (mP [])))) (mP [])))) (mP [])))) (dCons (xVar 6) (mP []))))) (callD 2 (F__law_same 10) (dCons (callD 2 F_poured_for (dCons (xVar 1) (dCons (xTup (dCons (xB minB (dCons (xVar 1) (mP []))) (dCons (xC (.int 1)) (mP [])))) (mP [])))) (dCons (xTup (dCons (xC (.int 0)) (dCons (xC (.int 1)) (mP [])))) (mP []))))))))))))
def F__law_is_told : List Ent → R D := defF (some 0) false 9 B__law_is_told
/-- _law_right(well): slots well, turn, floors, height -/
def B__law_right : M Fl := (sSeq (sFor (iOf range1 (dCons (xC (.int 16)) (mP []))) (setv 1) (sSeq (sSet 2 (callI 2 0 [0, 1, 2, 3] F__law_floors (aLate 0 (aVal (xC (.int 9)) (mP []))))) (sSeq (sSet 3 (callD 2 F__law_plus (dCons (xTup (dCons (callI 2 0 [0, 1, 2, 3] F__law_of (aLate 0 (aVal (xVar 2) (mP [])))) (dCons (xC (.int 1)) (mP [])))) (dCons (callD 2 F__law_part (dCons (x2 subD (callI 2 0 [0, 1, 2, 3] F__law_take (aLate 0 (aVal (xC (.int 90)) (mP [])))) (xC (.int 40))) (dCons (x2 addD (xC (.int 1)) (callI 2 0 [0, 1, 2, 3] F__law_take (aLate 0 (aVal (xC (.int 6)) (mP []))))) (mP [])))) (mP []))))) (sIf (tNotM (mTru (callI 4 0 [0, 1, 2, 3] F__law_is_told (aLate 0 (aVal (xVar 2) (aVal (callI 2 0 [0, 1, 2, 3] F__law_take (aLate 0 (aVal (callI 2 0 [0, 1, 2, 3] F__law_of (aLate 0 (aVal (xTup (dCons (xC (.int 1)) (dCons (xC (.int 9)) (dCons (xC (.int 100)) (dCons (xC (.int 10000)) (mP [])))))) (mP [])))) (mP [])))) (aVal (xVar 3) (mP [])))))))) (sRet (xC (.bl false))) (mP .nx))))) (sRet (callD 2 (F__law_same 10) (dCons (xFz (lLst (dCons (callD 2 F_flood_level (dCons (xTup (dCons (xC (.int 0)) (dCons (xC (.int 2)) (dCons (xC (.int 9)) (mP []))))) (dCons (xC (.int 4)) (mP [])))) (dCons (callD 2 F_poured_for (dCons (xTup (dCons (xC (.int 0)) (dCons (xC (.int 2)) (dCons (xC (.int 9)) (mP []))))) (dCons (xTup (dCons (xC (.int 3)) (dCons (xC (.int 1)) (mP [])))) (mP [])))) (dCons (callD 2 F_flood_level (dCons (xTup (dCons (xC (.int 1)) (dCons (xC (.int 2)) (mP [])))) (dCons (xC (.int 0)) (mP [])))) (dCons (callD 2 F_poured_for (dCons (xTup (dCons (xC (.int 1)) (dCons (xC (.int 2)) (mP [])))) (dCons (xTup (dCons (x2 subD (xC (.int 0)) (xC (.int 5))) (dCons (xC (.int 2)) (mP [])))) (mP [])))) (mP []))))))) (dCons (xFz (lLst (dCons (xTup (dCons (xC (.int 3)) (dCons (xC (.int 1)) (mP [])))) (dCons (xTup (dCons (xC (.int 4)) (dCons (xC (.int 1)) (mP [])))) (dCons (xC .non) (dCons (xTup (dCons (xC (.int 0)) (dCons (xC (.int 1)) (mP [])))) (mP []))))))) (mP []))))))
def F__law_right : List Ent → R D := defF (some 0) false 4 B__law_right
/-- law(script): slots script, lap -/
def B_law : M Fl := (sRet (xB allB (dCons (xFz (lComp [1] (iOf range1 (dCons (xB max2B (dCons (xC (.int 2)) (dCons (xB min2B (dCons (xB lenB (dCons (xVar 0) (mP []))) (dCons (xC (.int 3)) (mP [])))) (mP [])))) (mP []))) (setv 1) (mP true) (callN 1 0 F__law_right (pNew (callL 2 F__law_well (dCons (xVar 0) (dCons (xVar 1) (mP [])))) (mP []))))) (mP []))))
def F_law : List Ent → R D := defF none false 2 B_law
end
end FL
namespace FL
open PySem PySem.Spec L2
open PyProof.Rows (envOfC)
def topS (i : Nat) : Stmt := PySem.Challenge.pw_levelruns_k72_whole_flood_levels.main.body.getD i (.Pass ⟨0, 0, 0, 0⟩)
structure Txt (K : PySem.W.Frag) (mg : Str → Option Value) (a_is_floor : Addr) : Prop where
  d_is_whole : ∃ f fd, mg "is_whole" = some (.ref f) ∧ Fun K "is_whole" "is_whole" (topS 3) f fd ∧ Binds K fd ["value"] []
  d_is_between : ∃ f fd, mg "is_between" = some (.ref f) ∧ Fun K "is_between" "is_between" (topS 4) f fd ∧ Binds K fd ["value", "low", "high"] []
  d_is_tuple_of : ∃ f fd, mg "is_tuple_of" = some (.ref f) ∧ Fun K "is_tuple_of" "is_tuple_of" (topS 5) f fd ∧ Binds K fd ["value", "many"] []
  d_first_wrong : ∃ f fd, mg "first_wrong" = some (.ref f) ∧ Fun K "first_wrong" "first_wrong" (topS 6) f fd ∧ Binds K fd ["value", "fewest", "most", "is_right"] []
  d_fraction : ∃ f fd, mg "fraction" = some (.ref f) ∧ Fun K "fraction" "fraction" (topS 7) f fd ∧ Binds K fd ["number", "under"] []
  d_is_fraction_by : ∃ f fd, mg "is_fraction_by" = some (.ref f) ∧ Fun K "is_fraction_by" "is_fraction_by" (topS 8) f fd ∧ Binds K fd ["value"] []
  d_whole : ∃ f fd, mg "whole" = some (.ref f) ∧ Fun K "whole" "whole" (topS 9) f fd ∧ Binds K fd ["number"] []
  d_sum_of : ∃ f fd, mg "sum_of" = some (.ref f) ∧ Fun K "sum_of" "sum_of" (topS 10) f fd ∧ Binds K fd ["one", "two"] []
  d_less : ∃ f fd, mg "less" = some (.ref f) ∧ Fun K "less" "less" (topS 11) f fd ∧ Binds K fd ["one", "two"] []
  d_is_less : ∃ f fd, mg "is_less" = some (.ref f) ∧ Fun K "is_less" "is_less" (topS 12) f fd ∧ Binds K fd ["one", "two"] []
  d_total : ∃ f fd, mg "total" = some (.ref f) ∧ Fun K "total" "total" (topS 13) f fd ∧ Binds K fd ["some"] []
  d_check_fraction : ∃ f fd, mg "check_fraction" = some (.ref f) ∧ Fun K "check_fraction" "check_fraction" (topS 22) f fd ∧ Binds K fd ["value"] []
  d_check_number : ∃ f fd, mg "check_number" = some (.ref f) ∧ Fun K "check_number" "check_number" (topS 23) f fd ∧ Binds K fd ["value", "low", "high"] []
  d_flood_level_by : ∃ f fd, mg "flood_level_by" = some (.ref f) ∧ Fun K "flood_level_by" "flood_level_by" (topS 25) f fd ∧ Binds K fd ["floors", "poured"] []
  d_depth_at : ∃ f fd, mg "depth_at" = some (.ref f) ∧ Fun K "depth_at" "depth_at" (topS 26) f fd ∧ Binds K fd ["floor", "level"] []
  d_waters_by : ∃ f fd, mg "waters_by" = some (.ref f) ∧ Fun K "waters_by" "waters_by" (topS 27) f fd ∧ Binds K fd ["floors", "poured"] []
  d_poured_for_by : ∃ f fd, mg "poured_for_by" = some (.ref f) ∧ Fun K "poured_for_by" "poured_for_by" (topS 28) f fd ∧ Binds K fd ["floors", "level"] []
  d_is_floor : ∃ f fd, mg "is_floor" = some (.ref f) ∧ Fun K "is_floor" "is_floor" (topS 30) f fd ∧ Binds K fd ["value"] []
  d_check_floors : ∃ f fd, mg "check_floors" = some (.ref f) ∧ Fun K "check_floors" "check_floors" (topS 31) f fd ∧ Binds K fd ["value"] []
  d_check_flood : ∃ f fd, mg "check_flood" = some (.ref f) ∧ Fun K "check_flood" "check_flood" (topS 32) f fd ∧ Binds K fd ["floors", "number"] []
  d_waters : ∃ f fd, mg "waters" = some (.ref f) ∧ Fun K "waters" "waters" (topS 33) f fd ∧ Binds K fd ["floors", "number"] []
  d_flood_level : ∃ f fd, mg "flood_level" = some (.ref f) ∧ Fun K "flood_level" "flood_level" (topS 34) f fd ∧ Binds K fd ["floors", "number"] []
  d_poured_for : ∃ f fd, mg "poured_for" = some (.ref f) ∧ Fun K "poured_for" "poured_for" (topS 35) f fd ∧ Binds K fd ["floors", "fraction"] []
  d__law_well : ∃ f fd, mg "_law_well" = some (.ref f) ∧ Fun K "_law_well" "_law_well" (topS 37) f fd ∧ Binds K fd ["script", "lap"] []
  d__law_take : ∃ f fd, mg "_law_take" = some (.ref f) ∧ Fun K "_law_take" "_law_take" (topS 38) f fd ∧ Binds K fd ["well", "many"] []
  d__law_of : ∃ f fd, mg "_law_of" = some (.ref f) ∧ Fun K "_law_of" "_law_of" (topS 39) f fd ∧ Binds K fd ["well", "things"] []
  d__law_same : ∃ f fd, mg "_law_same" = some (.ref f) ∧ Fun K "_law_same" "_law_same" (topS 40) f fd ∧ Binds K fd ["told", "due"] []
  d__law_part : ∃ f fd, mg "_law_part" = some (.ref f) ∧ Fun K "_law_part" "_law_part" (topS 41) f fd ∧ Binds K fd ["one", "two"] []
  d__law_plus : ∃ f fd, mg "_law_plus" = some (.ref f) ∧ Fun K "_law_plus" "_law_plus" (topS 42) f fd ∧ Binds K fd ["one", "two"] []
  d__law_less : ∃ f fd, mg "_law_less" = some (.ref f) ∧ Fun K "_law_less" "_law_less" (topS 43) f fd ∧ Binds K fd ["one", "two"] []
  d__law_is_below : ∃ f fd, mg "_law_is_below" = some (.ref f) ∧ Fun K "_law_is_below" "_law_is_below" (topS 44) f fd ∧ Binds K fd ["one", "two"] []
  d__law_total : ∃ f fd, mg "_law_total" = some (.ref f) ∧ Fun K "_law_total" "_law_total" (topS 45) f fd ∧ Binds K fd ["some"] []
  d__law_floors : ∃ f fd, mg "_law_floors" = some (.ref f) ∧ Fun K "_law_floors" "_law_floors" (topS 46) f fd ∧ Binds K fd ["well", "most"] []
  d__law_waters : ∃ f fd, mg "_law_waters" = some (.ref f) ∧ Fun K "_law_waters" "_law_waters" (topS 47) f fd ∧ Binds K fd ["floors", "poured"] []
  d__law_poured_for : ∃ f fd, mg "_law_poured_for" = some (.ref f) ∧ Fun K "_law_poured_for" "_law_poured_for" (topS 48) f fd ∧ Binds K fd ["floors", "height"] []
  d__law_is_told : ∃ f fd, mg "_law_is_told" = some (.ref f) ∧ Fun K "_law_is_told" "_law_is_told" (topS 49) f fd ∧ Binds K fd ["well", "floors", "poured", "height"] []
  d__law_right : ∃ f fd, mg "_law_right" = some (.ref f) ∧ Fun K "_law_right" "_law_right" (topS 50) f fd ∧ Binds K fd ["well"] []
  d_law : ∃ f fd, mg "law" = some (.ref f) ∧ Fun K "law" "law" (topS 51) f fd ∧ Binds K fd ["script"] []
  b_abs : mg "abs" = none
  b_all : mg "all" = none
  b_any : mg "any" = none
  b_bool : mg "bool" = none
  b_dict : mg "dict" = none
  b_divmod : mg "divmod" = none
  b_enumerate : mg "enumerate" = none
  b_int : mg "int" = none
  b_isinstance : mg "isinstance" = none
  b_len : mg "len" = none
  b_list : mg "list" = none
  b_max : mg "max" = none
  b_min : mg "min" = none
  b_range : mg "range" = none
  b_sorted : mg "sorted" = none
  b_str : mg "str" = none
  b_sum : mg "sum" = none
  b_tuple : mg "tuple" = none
  c_FARTHEST : ∃ t, mg "FARTHEST" = some (.int (9999) t)
  c_MOST_PLACES : ∃ t, mg "MOST_PLACES" = some (.int (9) t)
  c_NOUGHT : ∃ a, mg "NOUGHT" = some (.ref a) ∧ ∀ F, Rep K F (.ref a) (.tup [(.int 0), (.int 1)])
  g_gcd : mg "gcd" = some (.builtin "math.gcd")
  m_is_floor : mg "is_floor" = some (.ref a_is_floor)
  n_is_floor : PySem.W.nsIn K mainGlobals "is_floor" = some (some (.ref a_is_floor))
theorem sc_is_whole : FnScope ["value"] ["value"] (defScope (topS 3)) := ⟨rfl, rfl, rfl, by decide +kernel, rfl, by decide +kernel, by decide +kernel⟩
theorem ok_is_whole {P : Program} {w : World} {K : PySem.W.Frag} {mg : Str → Option Value} {base : Heap} {a_is_floor : Addr} (T : Txt K mg a_is_floor) : DefOk P w K mg base "is_whole" (topS 3) ["value"] 1 none false F_is_whole :=
  def_ok (k := 0) (io := none) (fr := false) (N := ["value"]) (T := [0]) (b := B_is_whole) T.d_is_whole sc_is_whole fun f cdv A outer s H E hr tk hp =>
  have hN := sc_is_whole.nd
  (ss_one (ss_ret (se_and (se_b call_isi ok_is T.b_isinstance (sd_cons (se_var 0) (sd_cons (se_type T.b_int (by decide +kernel)) sd_nil)) (by decide +kernel)) (se_one (se_not (se_b call_isi ok_is T.b_isinstance (sd_cons (se_var 0) (sd_cons (se_type T.b_bool (by decide +kernel)) sd_nil)) (by decide +kernel)))))))
theorem sc_is_between : FnScope ["value", "low", "high"] ["value", "low", "high"] (defScope (topS 4)) := ⟨rfl, rfl, rfl, by decide +kernel, rfl, by decide +kernel, by decide +kernel⟩
theorem ok_is_between {P : Program} {w : World} {K : PySem.W.Frag} {mg : Str → Option Value} {base : Heap} {a_is_floor : Addr} (T : Txt K mg a_is_floor)
    (G_is_whole : DefOk P w K mg base "is_whole" (topS 3) ["value"] 1 none false (F_is_whole)) : DefOk P w K mg base "is_between" (topS 4) ["value", "low", "high"] 2 none false F_is_between :=
  def_ok (k := 1) (io := none) (fr := false) (N := ["value", "low", "high"]) (T := [0, 1, 2]) (b := B_is_between) T.d_is_between sc_is_between fun f cdv A outer s H E hr tk hp =>
  have hN := sc_is_between.nd
  (ss_one (ss_ret (se_and (se_call G_is_whole hr tk (sd_cons (se_var 0) sd_nil)) (se_one (se_chain op_le op_le opd_le opd_le (se_var 1) (se_var 0) (se_var 2))))))
theorem sc_is_tuple_of : FnScope ["value", "many"] ["value", "many"] (defScope (topS 5)) := ⟨rfl, rfl, rfl, by decide +kernel, rfl, by decide +kernel, by decide +kernel⟩
theorem ok_is_tuple_of {P : Program} {w : World} {K : PySem.W.Frag} {mg : Str → Option Value} {base : Heap} {a_is_floor : Addr} (T : Txt K mg a_is_floor) : DefOk P w K mg base "is_tuple_of" (topS 5) ["value", "many"] 1 none false F_is_tuple_of :=
  def_ok (k := 0) (io := none) (fr := false) (N := ["value", "many"]) (T := [0, 1]) (b := B_is_tuple_of) T.d_is_tuple_of sc_is_tuple_of fun f cdv A outer s H E hr tk hp =>
  have hN := sc_is_tuple_of.nd
  (ss_one (ss_ret (se_and (se_b call_isi ok_is T.b_isinstance (sd_cons (se_var 0) (sd_cons (se_type T.b_tuple (by decide +kernel)) sd_nil)) (by decide +kernel)) (se_one (se_eq hr.units (se_b call_len ok_len T.b_len (sd_cons (se_var 0) sd_nil) (by decide +kernel)) (se_var 1))))))
theorem sc_is_floor : FnScope ["value"] ["value"] (defScope (topS 30)) := ⟨rfl, rfl, rfl, by decide +kernel, rfl, by decide +kernel, by decide +kernel⟩
theorem ok_is_floor {P : Program} {w : World} {K : PySem.W.Frag} {mg : Str → Option Value} {base : Heap} {a_is_floor : Addr} (T : Txt K mg a_is_floor)
    (G_is_between : DefOk P w K mg base "is_between" (topS 4) ["value", "low", "high"] 2 none false (F_is_between)) : DefOk P w K mg base "is_floor" (topS 30) ["value"] 3 none false F_is_floor :=
  def_ok (k := 2) (io := none) (fr := false) (N := ["value"]) (T := [0]) (b := B_is_floor) T.d_is_floor sc_is_floor fun f cdv A outer s H E hr tk hp =>
  have hN := sc_is_floor.nd
  (ss_one (ss_ret (se_call G_is_between hr tk (sd_cons (se_var 0) (sd_cons (se_neg (se_cint T.c_FARTHEST)) (sd_cons (se_cint T.c_FARTHEST) sd_nil))))))
theorem sc_first_wrong__is_floor : FnScope ["value", "fewest", "most", "is_right", "index", "each"] ["value", "fewest", "most", "is_right"] (defScope (topS 6)) := ⟨rfl, rfl, rfl, by decide +kernel, rfl, by decide +kernel, by decide +kernel⟩
theorem ok_first_wrong__is_floor {P : Program} {w : World} {K : PySem.W.Frag} {mg : Str → Option Value} {base : Heap} {a_is_floor : Addr} (T : Txt K mg a_is_floor)
    (G_is_floor : DefOk P w K mg base "is_floor" (topS 30) ["value"] 3 none false (F_is_floor)) : DefOk P w K mg base "first_wrong" (topS 6) ["value", "fewest", "most", "is_right"] 4 none false F_first_wrong__is_floor :=
  def_ok (k := 3) (io := none) (fr := false) (N := ["value", "fewest", "most", "is_right", "index", "each"]) (T := [0, 1, 2, 3, 4, 5]) (b := B_first_wrong__is_floor) T.d_first_wrong sc_first_wrong__is_floor fun f cdv A outer s H E hr tk hp =>
  have hN := sc_first_wrong__is_floor.nd
  (ss_cons (ss_if (SW.pt (sw_or (st_not (st_of (se_b call_isi ok_is T.b_isinstance (sd_cons (se_var 0) (sd_cons (se_type T.b_tuple (by decide +kernel)) sd_nil)) (by decide +kernel)))) (sw_or1 (st_not (st_chain op_le op_le opd_le opd_le (se_var 1) (se_b call_len ok_len T.b_len (sd_cons (se_var 0) sd_nil) (by decide +kernel)) (se_var 2)))))) (ss_one (ss_ret (SL.se (el_lst (sd_cons se_non sd_nil))))) ss_nil) (ss_one (ss_ret (se_cut (SL.se (el_comp [("index", 4), ("each", 5)] rfl hN (si_enum T.b_enumerate (sd_cons (se_var 0) sd_nil)) (fun _ _ _ _ _ => (sg_tup rfl (sgs_cons (sg_name 4 hN) (sgs_cons (sg_name 5 hN) sgs_nil)))) (fun _ _ _ _ _ => (sts_one (st_not (st_of (se_callP 3 G_is_floor T.m_is_floor T.n_is_floor hr takes0 (sd_cons (se_var 5) sd_nil)))))) (fun _ _ _ _ _ => (se_var 4)) (blkOk_by (N := ["value", "fewest", "most", "is_right", "index", "each"]) (sc := defScope (topS 6)) (by decide +kernel)))) so_none (so_some se_int)))))
theorem sc_fraction : FnScope ["number", "under", "part"] ["number", "under"] (defScope (topS 7)) := ⟨rfl, rfl, rfl, by decide +kernel, rfl, by decide +kernel, by decide +kernel⟩
theorem ok_fraction {P : Program} {w : World} {K : PySem.W.Frag} {mg : Str → Option Value} {base : Heap} {a_is_floor : Addr} (T : Txt K mg a_is_floor) : DefOk P w K mg base "fraction" (topS 7) ["number", "under"] 1 none false F_fraction :=
  def_ok (k := 0) (io := none) (fr := false) (N := ["number", "under", "part"]) (T := [0, 1, 2]) (b := B_fraction) T.d_fraction sc_fraction fun f cdv A outer s H E hr tk hp =>
  have hN := sc_fraction.nd
  (ss_cons (ss_set 2 hN (se_mul (se_gcd cr_gcd ok_int2 T.g_gcd (sd_cons (se_var 0) (sd_cons (se_var 1) sd_nil))) (se_if (st_gt (se_var 1) se_int) se_int (se_neg se_int)))) (ss_one (ss_ret (se_tup (sd_cons (se_div (se_var 0) (se_var 2)) (sd_cons (se_div (se_var 1) (se_var 2)) sd_nil))))))
theorem sc_is_fraction_by : FnScope ["value"] ["value"] (defScope (topS 8)) := ⟨rfl, rfl, rfl, by decide +kernel, rfl, by decide +kernel, by decide +kernel⟩
theorem ok_is_fraction_by {P : Program} {w : World} {K : PySem.W.Frag} {mg : Str → Option Value} {base : Heap} {a_is_floor : Addr} (T : Txt K mg a_is_floor)
    (G_is_tuple_of : DefOk P w K mg base "is_tuple_of" (topS 5) ["value", "many"] 1 none false (F_is_tuple_of))
    (G_is_whole : DefOk P w K mg base "is_whole" (topS 3) ["value"] 1 none false (F_is_whole)) : DefOk P w K mg base "is_fraction_by" (topS 8) ["value"] 2 none false F_is_fraction_by :=
  def_ok (k := 1) (io := none) (fr := false) (N := ["value"]) (T := [0]) (b := B_is_fraction_by) T.d_is_fraction_by sc_is_fraction_by fun f cdv A outer s H E hr tk hp =>
  have hN := sc_is_fraction_by.nd
  (ss_cons (ss_if (SW.pt (sw_or (st_not (st_of (se_call G_is_tuple_of hr tk (sd_cons (se_var 0) (sd_cons se_int sd_nil))))) (sw_or (st_not (st_of (se_call G_is_whole hr tk (sd_cons (se_ix (se_var 0) se_int) sd_nil)))) (sw_or (st_not (st_of (se_call G_is_whole hr tk (sd_cons (se_ix (se_var 0) se_int) sd_nil)))) (sw_or1 (st_le (se_ix (se_var 0) se_int) se_int)))))) (ss_one (ss_ret se_bl)) ss_nil) (ss_one (ss_ret (se_eq hr.units (se_gcd cr_gcd ok_int2 T.g_gcd (sd_cons (se_ix (se_var 0) se_int) (sd_cons (se_ix (se_var 0) se_int) sd_nil))) se_int))))
theorem sc_whole : FnScope ["number"] ["number"] (defScope (topS 9)) := ⟨rfl, rfl, rfl, by decide +kernel, rfl, by decide +kernel, by decide +kernel⟩
theorem ok_whole {P : Program} {w : World} {K : PySem.W.Frag} {mg : Str → Option Value} {base : Heap} {a_is_floor : Addr} (T : Txt K mg a_is_floor) : DefOk P w K mg base "whole" (topS 9) ["number"] 1 none false F_whole :=
  def_ok (k := 0) (io := none) (fr := false) (N := ["number"]) (T := [0]) (b := B_whole) T.d_whole sc_whole fun f cdv A outer s H E hr tk hp =>
  have hN := sc_whole.nd
  (ss_one (ss_ret (se_tup (sd_cons (se_var 0) (sd_cons se_int sd_nil)))))
theorem sc_sum_of : FnScope ["one", "two"] ["one", "two"] (defScope (topS 10)) := ⟨rfl, rfl, rfl, by decide +kernel, rfl, by decide +kernel, by decide +kernel⟩
theorem ok_sum_of {P : Program} {w : World} {K : PySem.W.Frag} {mg : Str → Option Value} {base : Heap} {a_is_floor : Addr} (T : Txt K mg a_is_floor)
    (G_fraction : DefOk P w K mg base "fraction" (topS 7) ["number", "under"] 1 none false (F_fraction)) : DefOk P w K mg base "sum_of" (topS 10) ["one", "two"] 2 none false F_sum_of :=
  def_ok (k := 1) (io := none) (fr := false) (N := ["one", "two"]) (T := [0, 1]) (b := B_sum_of) T.d_sum_of sc_sum_of fun f cdv A outer s H E hr tk hp =>
  have hN := sc_sum_of.nd
  (ss_one (ss_ret (se_call G_fraction hr tk (sd_cons (se_add (se_mul (se_ix (se_var 0) se_int) (se_ix (se_var 1) se_int)) (se_mul (se_ix (se_var 1) se_int) (se_ix (se_var 0) se_int))) (sd_cons (se_mul (se_ix (se_var 0) se_int) (se_ix (se_var 1) se_int)) sd_nil)))))
theorem sc_less : FnScope ["one", "two"] ["one", "two"] (defScope (topS 11)) := ⟨rfl, rfl, rfl, by decide +kernel, rfl, by decide +kernel, by decide +kernel⟩
theorem ok_less {P : Program} {w : World} {K : PySem.W.Frag} {mg : Str → Option Value} {base : Heap} {a_is_floor : Addr} (T : Txt K mg a_is_floor)
    (G_fraction : DefOk P w K mg base "fraction" (topS 7) ["number", "under"] 1 none false (F_fraction)) : DefOk P w K mg base "less" (topS 11) ["one", "two"] 2 none false F_less :=
  def_ok (k := 1) (io := none) (fr := false) (N := ["one", "two"]) (T := [0, 1]) (b := B_less) T.d_less sc_less fun f cdv A outer s H E hr tk hp =>
  have hN := sc_less.nd
  (ss_one (ss_ret (se_call G_fraction hr tk (sd_cons (se_sub (se_mul (se_ix (se_var 0) se_int) (se_ix (se_var 1) se_int)) (se_mul (se_ix (se_var 1) se_int) (se_ix (se_var 0) se_int))) (sd_cons (se_mul (se_ix (se_var 0) se_int) (se_ix (se_var 1) se_int)) sd_nil)))))
theorem sc_is_less : FnScope ["one", "two"] ["one", "two"] (defScope (topS 12)) := ⟨rfl, rfl, rfl, by decide +kernel, rfl, by decide +kernel, by decide +kernel⟩
theorem ok_is_less {P : Program} {w : World} {K : PySem.W.Frag} {mg : Str → Option Value} {base : Heap} {a_is_floor : Addr} (T : Txt K mg a_is_floor) : DefOk P w K mg base "is_less" (topS 12) ["one", "two"] 1 none false F_is_less :=
  def_ok (k := 0) (io := none) (fr := false) (N := ["one", "two"]) (T := [0, 1]) (b := B_is_less) T.d_is_less sc_is_less fun f cdv A outer s H E hr tk hp =>
  have hN := sc_is_less.nd
  (ss_one (ss_ret (se_lt (se_mul (se_ix (se_var 0) se_int) (se_ix (se_var 1) se_int)) (se_mul (se_ix (se_var 1) se_int) (se_ix (se_var 0) se_int)))))
theorem sc_total : FnScope ["some", "found", "each"] ["some"] (defScope (topS 13)) := ⟨rfl, rfl, rfl, by decide +kernel, rfl, by decide +kernel, by decide +kernel⟩
theorem ok_total {P : Program} {w : World} {K : PySem.W.Frag} {mg : Str → Option Value} {base : Heap} {a_is_floor : Addr} (T : Txt K mg a_is_floor)
    (G_sum_of : DefOk P w K mg base "sum_of" (topS 10) ["one", "two"] 2 none false (F_sum_of)) : DefOk P w K mg base "total" (topS 13) ["some"] 3 none false F_total :=
  def_ok (k := 2) (io := none) (fr := false) (N := ["some", "found", "each"]) (T := [0, 1, 2]) (b := B_total) T.d_total sc_total fun f cdv A outer s H E hr tk hp =>
  have hN := sc_total.nd
  (ss_cons (ss_set 1 hN (se_ctup T.c_NOUGHT)) (ss_cons (ss_for rfl hp (si_row (se_var 0)) (sg_name 2 hN) (ss_one (ss_set 1 hN (se_call G_sum_of hr tk (sd_cons (se_var 1) (sd_cons (se_var 2) sd_nil)))))) (ss_one (ss_ret (se_var 1)))))
theorem sc_check_fraction : FnScope ["value"] ["value"] (defScope (topS 22)) := ⟨rfl, rfl, rfl, by decide +kernel, rfl, by decide +kernel, by decide +kernel⟩
theorem ok_check_fraction {P : Program} {w : World} {K : PySem.W.Frag} {mg : Str → Option Value} {base : Heap} {a_is_floor : Addr} (T : Txt K mg a_is_floor)
    (G_is_fraction_by : DefOk P w K mg base "is_fraction_by" (topS 8) ["value"] 2 none false (F_is_fraction_by)) : DefOk P w K mg base "check_fraction" (topS 22) ["value"] 3 none false F_check_fraction :=
  def_ok (k := 2) (io := none) (fr := false) (N := ["value"]) (T := [0]) (b := B_check_fraction) T.d_check_fraction sc_check_fraction fun f cdv A outer s H E hr tk hp =>
  have hN := sc_check_fraction.nd
  (ss_one (ss_if (st_not (st_of (se_call G_is_fraction_by hr tk (sd_cons (se_var 0) sd_nil)))) (ss_one ss_bad) ss_nil))
theorem sc_check_number : FnScope ["value", "low", "high"] ["value", "low", "high"] (defScope (topS 23)) := ⟨rfl, rfl, rfl, by decide +kernel, rfl, by decide +kernel, by decide +kernel⟩
theorem ok_check_number {P : Program} {w : World} {K : PySem.W.Frag} {mg : Str → Option Value} {base : Heap} {a_is_floor : Addr} (T : Txt K mg a_is_floor)
    (G_is_between : DefOk P w K mg base "is_between" (topS 4) ["value", "low", "high"] 2 none false (F_is_between)) : DefOk P w K mg base "check_number" (topS 23) ["value", "low", "high"] 3 none false F_check_number :=
  def_ok (k := 2) (io := none) (fr := false) (N := ["value", "low", "high"]) (T := [0, 1, 2]) (b := B_check_number) T.d_check_number sc_check_number fun f cdv A outer s H E hr tk hp =>
  have hN := sc_check_number.nd
  (ss_one (ss_if (st_not (st_of (se_call G_is_between hr tk (sd_cons (se_var 0) (sd_cons (se_var 1) (sd_cons (se_var 2) sd_nil)))))) (ss_one ss_bad) ss_nil))
theorem sc_flood_level_by : FnScope ["floors", "poured", "low", "levels", "many", "level"] ["floors", "poured"] (defScope (topS 25)) := ⟨rfl, rfl, rfl, by decide +kernel, rfl, by decide +kernel, by decide +kernel⟩
theorem ok_flood_level_by {P : Program} {w : World} {K : PySem.W.Frag} {mg : Str → Option Value} {base : Heap} {a_is_floor : Addr} (T : Txt K mg a_is_floor)
    (G_fraction : DefOk P w K mg base "fraction" (topS 7) ["number", "under"] 1 none false (F_fraction))
    (G_is_less : DefOk P w K mg base "is_less" (topS 12) ["one", "two"] 1 none false (F_is_less))
    (G_whole : DefOk P w K mg base "whole" (topS 9) ["number"] 1 none false (F_whole)) : DefOk P w K mg base "flood_level_by" (topS 25) ["floors", "poured"] 2 none false F_flood_level_by :=
  def_ok (k := 1) (io := none) (fr := false) (N := ["floors", "poured", "low", "levels", "many", "level"]) (T := [0, 1, 2, 3, 4, 5]) (b := B_flood_level_by) T.d_flood_level_by sc_flood_level_by fun f cdv A outer s H E hr tk hp =>
  have hN := sc_flood_level_by.nd
  (ss_cons (ss_if (st_eq hr.units (se_var 1) se_int) (ss_one (ss_ret se_non)) ss_nil) (ss_cons (ss_set 2 hN (SL.se (el_sort T.b_sorted (sd_cons (se_var 0) sd_nil)))) (ss_cons (ss_setComp 3 [("many", 4)] rfl hN (si_range2 T.b_range (sd_cons se_int (sd_cons (se_add (se_b call_len ok_len T.b_len (sd_cons (se_var 2) sd_nil) (by decide +kernel)) se_int) sd_nil))) (fun _ _ _ _ _ => (sg_name 4 hN)) (fun _ _ _ _ _ => sts_nil) (fun _ _ _ _ _ => (se_call G_fraction hr takes0 (sd_cons (se_add (se_var 1) (se_b (cr_sum2 rfl) ok_sum T.b_sum (sd_cons (se_cut (se_var 2) so_none (so_some (se_var 4))) sd_nil) (by decide +kernel))) (sd_cons (se_var 4) sd_nil)))) (blkOk_by (N := ["floors", "poured", "low", "levels", "many", "level"]) (sc := defScope (topS 25)) (by decide +kernel)) (sw_true rfl rfl rfl (by decide +kernel))) (ss_cons (ss_for rfl hp (si_enum2 T.b_enumerate (sd_cons (se_cut (se_var 3) so_none (so_some (se_neg se_int))) (sd_cons se_int sd_nil))) (sg_tup rfl (sgs_cons (sg_name 4 hN) (sgs_cons (sg_name 5 hN) sgs_nil))) (ss_one (ss_if (st_not (st_of (se_call G_is_less hr tk (sd_cons (se_call G_whole hr tk (sd_cons (se_ix (se_var 2) (se_var 4)) sd_nil)) (sd_cons (se_var 5) sd_nil))))) (ss_one (ss_ret (se_var 5))) ss_nil))) (ss_one (ss_ret (se_ix (se_var 3) (se_neg se_int))))))))
theorem sc_depth_at : FnScope ["floor", "level", "found"] ["floor", "level"] (defScope (topS 26)) := ⟨rfl, rfl, rfl, by decide +kernel, rfl, by decide +kernel, by decide +kernel⟩
theorem ok_depth_at {P : Program} {w : World} {K : PySem.W.Frag} {mg : Str → Option Value} {base : Heap} {a_is_floor : Addr} (T : Txt K mg a_is_floor)
    (G_less : DefOk P w K mg base "less" (topS 11) ["one", "two"] 2 none false (F_less))
    (G_whole : DefOk P w K mg base "whole" (topS 9) ["number"] 1 none false (F_whole)) : DefOk P w K mg base "depth_at" (topS 26) ["floor", "level"] 3 none false F_depth_at :=
  def_ok (k := 2) (io := none) (fr := false) (N := ["floor", "level", "found"]) (T := [0, 1, 2]) (b := B_depth_at) T.d_depth_at sc_depth_at fun f cdv A outer s H E hr tk hp =>
  have hN := sc_depth_at.nd
  (ss_cons (ss_set 2 hN (se_call G_less hr tk (sd_cons (se_var 1) (sd_cons (se_call G_whole (hr.mono (by decide)) tk (sd_cons (se_var 0) sd_nil)) sd_nil)))) (ss_one (ss_ret (se_if (st_gt (se_ix (se_var 2) se_int) se_int) (se_var 2) (se_ctup T.c_NOUGHT)))))
theorem sc_waters_by : FnScope ["floors", "poured", "level", "floor"] ["floors", "poured"] (defScope (topS 27)) := ⟨rfl, rfl, rfl, by decide +kernel, rfl, by decide +kernel, by decide +kernel⟩
theorem ok_waters_by {P : Program} {w : World} {K : PySem.W.Frag} {mg : Str → Option Value} {base : Heap} {a_is_floor : Addr} (T : Txt K mg a_is_floor)
    (G_flood_level_by : DefOk P w K mg base "flood_level_by" (topS 25) ["floors", "poured"] 2 none false (F_flood_level_by))
    (G_depth_at : DefOk P w K mg base "depth_at" (topS 26) ["floor", "level"] 3 none false (F_depth_at)) : DefOk P w K mg base "waters_by" (topS 27) ["floors", "poured"] 4 none false F_waters_by :=
  def_ok (k := 3) (io := none) (fr := false) (N := ["floors", "poured", "level", "floor"]) (T := [0, 1, 2, 3]) (b := B_waters_by) T.d_waters_by sc_waters_by fun f cdv A outer s H E hr tk hp =>
  have hN := sc_waters_by.nd
  (ss_cons (ss_set 2 hN (se_call G_flood_level_by (hr.mono (by decide)) tk (sd_cons (se_var 0) (sd_cons (se_var 1) sd_nil)))) (ss_one (ss_ret (se_bt call_tuple_of ok_tup T.b_tuple (sd_cons (SL.se (el_comp [("floor", 3)] rfl hN (si_row (se_var 0)) (fun _ _ _ _ _ => (sg_name 3 hN)) (fun _ _ _ _ _ => sts_nil) (fun _ _ _ _ _ => (se_if (st_notN (se_var 2) se_non) (se_call G_depth_at hr takes0 (sd_cons (se_var 3) (sd_cons (se_var 2) sd_nil))) (se_ctup T.c_NOUGHT))) (blkOk_by (N := ["floors", "poured", "level", "floor"]) (sc := defScope (topS 27)) (by decide +kernel)))) sd_nil) (by decide +kernel)))))
theorem sc_poured_for_by : FnScope ["floors", "level", "floor"] ["floors", "level"] (defScope (topS 28)) := ⟨rfl, rfl, rfl, by decide +kernel, rfl, by decide +kernel, by decide +kernel⟩
theorem ok_poured_for_by {P : Program} {w : World} {K : PySem.W.Frag} {mg : Str → Option Value} {base : Heap} {a_is_floor : Addr} (T : Txt K mg a_is_floor)
    (G_total : DefOk P w K mg base "total" (topS 13) ["some"] 3 none false (F_total))
    (G_depth_at : DefOk P w K mg base "depth_at" (topS 26) ["floor", "level"] 3 none false (F_depth_at)) : DefOk P w K mg base "poured_for_by" (topS 28) ["floors", "level"] 4 none false F_poured_for_by :=
  def_ok (k := 3) (io := none) (fr := false) (N := ["floors", "level", "floor"]) (T := [0, 1, 2]) (b := B_poured_for_by) T.d_poured_for_by sc_poured_for_by fun f cdv A outer s H E hr tk hp =>
  have hN := sc_poured_for_by.nd
  (ss_one (ss_ret (se_call G_total hr tk (sd_cons (SL.se (el_comp [("floor", 2)] rfl hN (si_row (se_var 0)) (fun _ _ _ _ _ => (sg_name 2 hN)) (fun _ _ _ _ _ => sts_nil) (fun _ _ _ _ _ => (se_call G_depth_at hr takes0 (sd_cons (se_var 2) (sd_cons (se_var 1) sd_nil)))) (blkOk_by (N := ["floors", "level", "floor"]) (sc := defScope (topS 28)) (by decide +kernel)))) sd_nil))))
theorem sc_check_floors : FnScope ["value", "index"] ["value"] (defScope (topS 31)) := ⟨rfl, rfl, rfl, by decide +kernel, rfl, by decide +kernel, by decide +kernel⟩
theorem ok_check_floors {P : Program} {w : World} {K : PySem.W.Frag} {mg : Str → Option Value} {base : Heap} {a_is_floor : Addr} (T : Txt K mg a_is_floor)
    (G_first_wrong__is_floor : DefOk P w K mg base "first_wrong" (topS 6) ["value", "fewest", "most", "is_right"] 4 none false (F_first_wrong__is_floor)) : DefOk P w K mg base "check_floors" (topS 31) ["value"] 5 none false F_check_floors :=
  def_ok (k := 4) (io := none) (fr := false) (N := ["value", "index"]) (T := [0, 1]) (b := B_check_floors) T.d_check_floors sc_check_floors fun f cdv A outer s H E hr tk hp =>
  have hN := sc_check_floors.nd
  (ss_one (ss_for rfl hp (si_row (se_call G_first_wrong__is_floor hr tk (sd_cons (se_var 0) (sd_cons se_int (sd_cons (se_cint T.c_MOST_PLACES) (sd_cons (se_def T.m_is_floor T.n_is_floor) sd_nil)))))) (sg_name 1 hN) (ss_one ss_bad)))
theorem sc_check_flood : FnScope ["floors", "number"] ["floors", "number"] (defScope (topS 32)) := ⟨rfl, rfl, rfl, by decide +kernel, rfl, by decide +kernel, by decide +kernel⟩
theorem ok_check_flood {P : Program} {w : World} {K : PySem.W.Frag} {mg : Str → Option Value} {base : Heap} {a_is_floor : Addr} (T : Txt K mg a_is_floor)
    (G_check_floors : DefOk P w K mg base "check_floors" (topS 31) ["value"] 5 none false (F_check_floors))
    (G_check_number : DefOk P w K mg base "check_number" (topS 23) ["value", "low", "high"] 3 none false (F_check_number)) : DefOk P w K mg base "check_flood" (topS 32) ["floors", "number"] 6 none false F_check_flood :=
  def_ok (k := 5) (io := none) (fr := false) (N := ["floors", "number"]) (T := [0, 1]) (b := B_check_flood) T.d_check_flood sc_check_flood fun f cdv A outer s H E hr tk hp =>
  have hN := sc_check_flood.nd
  (ss_cons (ss_expr (se_call G_check_floors hr tk (sd_cons (se_var 0) sd_nil))) (ss_one (ss_expr (se_call G_check_number (hr.mono (by decide)) tk (sd_cons (se_var 1) (sd_cons se_int (sd_cons (se_cint T.c_FARTHEST) sd_nil)))))))
theorem sc_waters : FnScope ["floors", "number"] ["floors", "number"] (defScope (topS 33)) := ⟨rfl, rfl, rfl, by decide +kernel, rfl, by decide +kernel, by decide +kernel⟩
theorem ok_waters {P : Program} {w : World} {K : PySem.W.Frag} {mg : Str → Option Value} {base : Heap} {a_is_floor : Addr} (T : Txt K mg a_is_floor)
    (G_check_flood : DefOk P w K mg base "check_flood" (topS 32) ["floors", "number"] 6 none false (F_check_flood))
    (G_waters_by : DefOk P w K mg base "waters_by" (topS 27) ["floors", "poured"] 4 none false (F_waters_by)) : DefOk P w K mg base "waters" (topS 33) ["floors", "number"] 7 none false F_waters :=
  def_ok (k := 6) (io := none) (fr := false) (N := ["floors", "number"]) (T := [0, 1]) (b := B_waters) T.d_waters sc_waters fun f cdv A outer s H E hr tk hp =>
  have hN := sc_waters.nd
  (ss_cons (ss_expr (se_call G_check_flood hr tk (sd_cons (se_var 0) (sd_cons (se_var 1) sd_nil)))) (ss_one (ss_ret (se_call G_waters_by (hr.mono (by decide)) tk (sd_cons (se_var 0) (sd_cons (se_var 1) sd_nil))))))
theorem sc_flood_level : FnScope ["floors", "number"] ["floors", "number"] (defScope (topS 34)) := ⟨rfl, rfl, rfl, by decide +kernel, rfl, by decide +kernel, by decide +kernel⟩
theorem ok_flood_level {P : Program} {w : World} {K : PySem.W.Frag} {mg : Str → Option Value} {base : Heap} {a_is_floor : Addr} (T : Txt K mg a_is_floor)
    (G_check_flood : DefOk P w K mg base "check_flood" (topS 32) ["floors", "number"] 6 none false (F_check_flood))
    (G_flood_level_by : DefOk P w K mg base "flood_level_by" (topS 25) ["floors", "poured"] 2 none false (F_flood_level_by)) : DefOk P w K mg base "flood_level" (topS 34) ["floors", "number"] 7 none false F_flood_level := by
  rw [Fe_flood_level]
  exact def_ok (k := 6) (io := none) (fr := false) (N := ["floors", "number"]) (T := [0, 1]) (b := B_flood_level) T.d_flood_level sc_flood_level fun f cdv A outer s H E hr tk hp =>
      have hN := sc_flood_level.nd
      (ss_cons (ss_expr (se_call G_check_flood hr tk (sd_cons (se_var 0) (sd_cons (se_var 1) sd_nil)))) (ss_one (ss_ret (se_call G_flood_level_by (hr.mono (by decide)) tk (sd_cons (se_var 0) (sd_cons (se_var 1) sd_nil))))))
theorem sc_poured_for : FnScope ["floors", "fraction"] ["floors", "fraction"] (defScope (topS 35)) := ⟨rfl, rfl, rfl, by decide +kernel, rfl, by decide +kernel, by decide +kernel⟩
theorem ok_poured_for {P : Program} {w : World} {K : PySem.W.Frag} {mg : Str → Option Value} {base : Heap} {a_is_floor : Addr} (T : Txt K mg a_is_floor)
    (G_check_floors : DefOk P w K mg base "check_floors" (topS 31) ["value"] 5 none false (F_check_floors))
    (G_check_fraction : DefOk P w K mg base "check_fraction" (topS 22) ["value"] 3 none false (F_check_fraction))
    (G_poured_for_by : DefOk P w K mg base "poured_for_by" (topS 28) ["floors", "level"] 4 none false (F_poured_for_by)) : DefOk P w K mg base "poured_for" (topS 35) ["floors", "fraction"] 6 none false F_poured_for := by
  rw [Fe_poured_for]
  exact def_ok (k := 5) (io := none) (fr := false) (N := ["floors", "fraction"]) (T := [0, 1]) (b := B_poured_for) T.d_poured_for sc_poured_for fun f cdv A outer s H E hr tk hp =>
      have hN := sc_poured_for.nd
      (ss_cons (ss_expr (se_call G_check_floors hr tk (sd_cons (se_var 0) sd_nil))) (ss_cons (ss_expr (se_call G_check_fraction (hr.mono (by decide)) tk (sd_cons (se_var 1) sd_nil))) (ss_one (ss_ret (se_call G_poured_for_by (hr.mono (by decide)) tk (sd_cons (se_var 0) (sd_cons (se_var 1) sd_nil)))))))
theorem sc__law_well : FnScope ["script", "lap", "own", "stir", "each"] ["script", "lap"] (defScope (topS 37)) := ⟨rfl, rfl, rfl, by decide +kernel, rfl, by decide +kernel, by decide +kernel⟩
theorem ok__law_well {P : Program} {w : World} {K : PySem.W.Frag} {mg : Str → Option Value} {base : Heap} {a_is_floor : Addr} (T : Txt K mg a_is_floor) : DefOk P w K mg base "_law_well" (topS 37) ["script", "lap"] 1 none true F__law_well :=
  def_ok (k := 0) (io := none) (fr := true) (N := ["script", "lap", "own", "stir", "each"]) (T := [0, 1, 2, 3, 4]) (b := B__law_well) T.d__law_well sc__law_well fun f cdv A outer s H E hr tk hp =>
  have hN := sc__law_well.nd
  (ss_cons (ss_set 2 hN (se_if (st_lt (se_var 1) (se_b call_len ok_len T.b_len (sd_cons (se_var 0) sd_nil) (by decide +kernel))) (se_bt call_int1 ok_int T.b_int (sd_cons (se_ix (se_var 0) (se_var 1)) sd_nil) (by decide +kernel)) se_int)) (ss_cons (ss_set 3 hN (se_add se_int (se_mul se_int (se_var 1)))) (ss_cons (ss_for rfl hp (si_row (se_add (se_cut (se_var 0) so_none (so_some se_int)) (SL.se (el_lst (sd_cons (se_var 2) sd_nil))))) (sg_name 4 hN) (ss_one (ss_set 3 hN (se_mod (se_bt call_int1 ok_int T.b_int (sd_cons (se_add (se_add (se_mul (se_var 3) se_int) (se_mod (se_bt call_int1 ok_int T.b_int (sd_cons (se_var 4) sd_nil) (by decide +kernel)) se_int)) se_int) sd_nil) (by decide +kernel)) se_int)))) (ss_one (ss_retL (el_lst (sd_cons (se_if (SW.pt (sw_or (st_lt (se_var 2) se_int) (sw_or1 (st_ge (se_var 2) (se_pow se_int se_int))))) (se_b call_abs ok_int1 T.b_abs (sd_cons (se_var 2) sd_nil) (by decide +kernel)) se_int) (sd_cons (se_var 3) (sd_cons se_int sd_nil)))))))))
theorem sc__law_take : FnScope ["well", "many", "digit"] ["well", "many"] (defScope (topS 38)) := ⟨rfl, rfl, rfl, by decide +kernel, rfl, by decide +kernel, by decide +kernel⟩
theorem ok__law_take {P : Program} {w : World} {K : PySem.W.Frag} {mg : Str → Option Value} {base : Heap} {a_is_floor : Addr} (T : Txt K mg a_is_floor) : DefOk P w K mg base "_law_take" (topS 38) ["well", "many"] 1 (some 0) false F__law_take :=
  def_ok (k := 0) (io := (some 0)) (fr := false) (N := ["well", "many", "digit"]) (T := [0, 1, 2]) (b := B__law_take) T.d__law_take sc__law_take fun f cdv A outer s H E hr tk hp =>
  have hN := sc__law_take.nd
  (ss_cons (ss_if (st_gt (se_lend (S := []) 0 (se_ix (se_var 0) se_int)) se_int) (ss_cons (ss_asg (se_b call_divmod ok_dm T.b_divmod (sd_cons (se_lend (S := []) 0 (se_ix (se_var 0) se_int)) (sd_cons (se_var 1) sd_nil)) (by decide +kernel)) (sg_tup rfl (sgs_cons (sg_sub 0 se_int) (sgs_cons (sg_name 2 hN) sgs_nil)))) (ss_one (ss_ret (se_var 2)))) ss_nil) (ss_cons (ss_asg (se_add (se_lend (S := []) 0 (se_ix (se_var 0) se_int)) se_int) (sg_sub 0 se_int)) (ss_cons (ss_asg (se_mod (se_bt call_int1 ok_int T.b_int (sd_cons (se_add (se_add (se_mul (se_lend (S := []) 0 (se_ix (se_var 0) se_int)) se_int) (se_mul (se_lend (S := []) 0 (se_ix (se_var 0) se_int)) se_int)) se_int) sd_nil) (by decide +kernel)) se_int) (sg_sub 0 se_int)) (ss_one (ss_ret (se_mod (se_bt call_int1 ok_int T.b_int (sd_cons (se_div (se_lend (S := []) 0 (se_ix (se_var 0) se_int)) se_int) sd_nil) (by decide +kernel)) (se_var 1)))))))
theorem sc__law_of : FnScope ["well", "things"] ["well", "things"] (defScope (topS 39)) := ⟨rfl, rfl, rfl, by decide +kernel, rfl, by decide +kernel, by decide +kernel⟩
theorem ok__law_of {P : Program} {w : World} {K : PySem.W.Frag} {mg : Str → Option Value} {base : Heap} {a_is_floor : Addr} (T : Txt K mg a_is_floor)
    (G__law_take : DefOk P w K mg base "_law_take" (topS 38) ["well", "many"] 1 (some 0) false (F__law_take)) : DefOk P w K mg base "_law_of" (topS 39) ["well", "things"] 2 (some 0) false F__law_of :=
  def_ok (k := 1) (io := (some 0)) (fr := false) (N := ["well", "things"]) (T := [0, 1]) (b := B__law_of) T.d__law_of sc__law_of fun f cdv A outer s H E hr tk hp =>
  have hN := sc__law_of.nd
  (ss_one (ss_ret (se_ix (se_var 1) (se_callI G__law_take hr tk (sa_late 0 (sa_val (se_b call_len ok_len T.b_len (sd_cons (se_var 1) sd_nil) (by decide +kernel)) sa_nil))))))
theorem sc__law_same : FnScope ["told", "due", "at"] ["told", "due"] (defScope (topS 40)) := ⟨rfl, rfl, rfl, by decide +kernel, rfl, by decide +kernel, by decide +kernel⟩
theorem ok__law_same {P : Program} {w : World} {K : PySem.W.Frag} {mg : Str → Option Value} {base : Heap} {a_is_floor : Addr} (T : Txt K mg a_is_floor) : ∀ n : Nat, DefOk P w K mg base "_law_same" (topS 40) ["told", "due"] (1 + n) none false (F__law_same n)
  | 0 => bad_ok T.d__law_same
  | n + 1 =>
  have G__law_same := ok__law_same (P := P) (w := w) (base := base) T n
  def_ok (k := 1 + n) (io := none) (fr := false) (N := ["told", "due", "at"]) (T := [0, 1, 2]) (b := B__law_same (F__law_same n)) T.d__law_same sc__law_same fun f cdv A outer s H E hr tk hp =>
  have hN := sc__law_same.nd
  (ss_cons (ss_if (SW.pt (sw_or (SW.pt (sw_and (st_of (se_b call_isi ok_is T.b_isinstance (sd_cons (se_var 1) (sd_cons (se_type T.b_tuple (by decide +kernel)) sd_nil)) (by decide +kernel))) (sw_and1 (st_not (st_of (se_b call_isi ok_is T.b_isinstance (sd_cons (se_var 0) (sd_cons (se_type T.b_tuple (by decide +kernel)) sd_nil)) (by decide +kernel))))))) (sw_or1 (SW.pt (sw_and (st_of (se_b call_isi ok_is T.b_isinstance (sd_cons (se_var 1) (sd_cons (se_type T.b_list (by decide +kernel)) sd_nil)) (by decide +kernel))) (sw_and1 (st_not (st_of (se_b call_isi ok_is T.b_isinstance (sd_cons (se_var 0) (sd_cons (se_type T.b_list (by decide +kernel)) sd_nil)) (by decide +kernel)))))))))) (ss_one (ss_ret se_bl)) ss_nil) (ss_cons (ss_if (st_of (se_isT ["tuple", "list"] T.b_isinstance (se_var 1) (sd_cons (se_type T.b_tuple (by decide +kernel)) (sd_cons (se_type T.b_list (by decide +kernel)) sd_nil)) (by decide) (by decide +kernel))) (ss_one (ss_ret (se_and (se_eq hr.units (se_b call_len ok_len T.b_len (sd_cons (se_var 0) sd_nil) (by decide +kernel)) (se_b call_len ok_len T.b_len (sd_cons (se_var 1) sd_nil) (by decide +kernel))) (se_one (se_b (cr_all rfl) ok_all T.b_all (sd_cons (SL.se (el_comp [("at", 2)] rfl hN (si_range1 T.b_range (sd_cons (se_b call_len ok_len T.b_len (sd_cons (se_var 1) sd_nil) (by decide +kernel)) sd_nil)) (fun _ _ _ _ _ => (sg_name 2 hN)) (fun _ _ _ _ _ => sts_nil) (fun _ _ _ _ _ => (se_call G__law_same hr takes0 (sd_cons (se_ix (se_var 0) (se_var 2)) (sd_cons (se_ix (se_var 1) (se_var 2)) sd_nil)))) (blkOk_by (N := ["told", "due", "at"]) (sc := defScope (topS 40)) (by decide +kernel)))) sd_nil) (by decide +kernel)))))) ss_nil) (ss_cons (ss_if (SW.pt (sw_or (st_isN (se_var 1) se_non) (sw_or1 (st_isN (se_var 0) se_non)))) (ss_one (ss_ret (se_and (se_isN (se_var 1) se_non) (se_one (se_isN (se_var 0) se_non))))) ss_nil) (ss_cons (ss_if (SW.pt (sw_or (st_of (se_b call_isi ok_is T.b_isinstance (sd_cons (se_var 1) (sd_cons (se_type T.b_bool (by decide +kernel)) sd_nil)) (by decide +kernel))) (sw_or1 (st_of (se_b call_isi ok_is T.b_isinstance (sd_cons (se_var 0) (sd_cons (se_type T.b_bool (by decide +kernel)) sd_nil)) (by decide +kernel)))))) (ss_one (ss_ret (se_and (se_b call_isi ok_is T.b_isinstance (sd_cons (se_var 1) (sd_cons (se_type T.b_bool (by decide +kernel)) sd_nil)) (by decide +kernel)) (se_and (se_b call_isi ok_is T.b_isinstance (sd_cons (se_var 0) (sd_cons (se_type T.b_bool (by decide +kernel)) sd_nil)) (by decide +kernel)) (se_one (se_eq hr.units (se_var 1) (se_var 0))))))) ss_nil) (ss_cons (ss_if (st_of (se_b call_isi ok_is T.b_isinstance (sd_cons (se_var 1) (sd_cons (se_type T.b_int (by decide +kernel)) sd_nil)) (by decide +kernel))) (ss_one (ss_ret (se_and (se_b call_isi ok_is T.b_isinstance (sd_cons (se_var 0) (sd_cons (se_type T.b_int (by decide +kernel)) sd_nil)) (by decide +kernel)) (se_one (se_eq hr.units (se_var 0) (se_var 1)))))) ss_nil) (ss_cons (ss_if (st_of (se_b call_isi ok_is T.b_isinstance (sd_cons (se_var 1) (sd_cons (se_type T.b_str (by decide +kernel)) sd_nil)) (by decide +kernel))) (ss_one (ss_ret (se_and (se_b call_isi ok_is T.b_isinstance (sd_cons (se_var 0) (sd_cons (se_type T.b_str (by decide +kernel)) sd_nil)) (by decide +kernel)) (se_one (se_eq hr.units (se_var 0) (se_var 1)))))) ss_nil) (ss_one (ss_ret (se_and (se_b call_isi ok_is T.b_isinstance (sd_cons (se_var 1) (sd_cons (se_type T.b_dict (by decide +kernel)) sd_nil)) (by decide +kernel)) (se_and (se_b call_isi ok_is T.b_isinstance (sd_cons (se_var 0) (sd_cons (se_type T.b_dict (by decide +kernel)) sd_nil)) (by decide +kernel)) (se_and (se_eq hr.units (se_b call_len ok_len T.b_len (sd_cons (se_var 0) sd_nil) (by decide +kernel)) (se_b call_len ok_len T.b_len (sd_cons (se_var 1) sd_nil) (by decide +kernel))) (se_one (se_eq hr.units (se_var 0) (se_var 1))))))))))))))
theorem sc__law_part : FnScope ["one", "two", "low", "high"] ["one", "two"] (defScope (topS 41)) := ⟨rfl, rfl, rfl, by decide +kernel, rfl, by decide +kernel, by decide +kernel⟩
theorem ok__law_part {P : Program} {w : World} {K : PySem.W.Frag} {mg : Str → Option Value} {base : Heap} {a_is_floor : Addr} (T : Txt K mg a_is_floor) : DefOk P w K mg base "_law_part" (topS 41) ["one", "two"] 1 none false F__law_part :=
  def_ok (k := 0) (io := none) (fr := false) (N := ["one", "two", "low", "high"]) (T := [0, 1, 2, 3]) (b := B__law_part) T.d__law_part sc__law_part fun f cdv A outer s H E hr tk hp =>
  have hN := sc__law_part.nd
  (ss_cons (ss_if (st_lt (se_var 1) se_int) (ss_one (ss_par2 0 1 rfl hN (sd_cons (se_sub se_int (se_var 0)) (sd_cons (se_sub se_int (se_var 1)) sd_nil)) rfl)) ss_nil) (ss_cons (ss_par2 2 3 rfl hN (sd_cons (se_b call_abs ok_int1 T.b_abs (sd_cons (se_var 0) sd_nil) (by decide +kernel)) (sd_cons (se_var 1) sd_nil)) rfl) (ss_cons (ss_while 1000 hp (st_gt (se_var 3) se_int) (ss_one (ss_par2 2 3 rfl hN (sd_cons (se_var 3) (sd_cons (se_mod (se_bt call_int1 ok_int T.b_int (sd_cons (se_var 2) sd_nil) (by decide +kernel)) (se_var 3)) sd_nil)) rfl))) (ss_one (ss_ret (se_tup (sd_cons (se_div (se_var 0) (se_var 2)) (sd_cons (se_div (se_var 1) (se_var 2)) sd_nil))))))))
theorem sc__law_plus : FnScope ["one", "two"] ["one", "two"] (defScope (topS 42)) := ⟨rfl, rfl, rfl, by decide +kernel, rfl, by decide +kernel, by decide +kernel⟩
theorem ok__law_plus {P : Program} {w : World} {K : PySem.W.Frag} {mg : Str → Option Value} {base : Heap} {a_is_floor : Addr} (T : Txt K mg a_is_floor)
    (G__law_part : DefOk P w K mg base "_law_part" (topS 41) ["one", "two"] 1 none false (F__law_part)) : DefOk P w K mg base "_law_plus" (topS 42) ["one", "two"] 2 none false F__law_plus :=
  def_ok (k := 1) (io := none) (fr := false) (N := ["one", "two"]) (T := [0, 1]) (b := B__law_plus) T.d__law_plus sc__law_plus fun f cdv A outer s H E hr tk hp =>
  have hN := sc__law_plus.nd
  (ss_one (ss_ret (se_call G__law_part hr tk (sd_cons (se_add (se_mul (se_ix (se_var 0) se_int) (se_ix (se_var 1) se_int)) (se_mul (se_ix (se_var 1) se_int) (se_ix (se_var 0) se_int))) (sd_cons (se_mul (se_ix (se_var 0) se_int) (se_ix (se_var 1) se_int)) sd_nil)))))
theorem sc__law_less : FnScope ["one", "two"] ["one", "two"] (defScope (topS 43)) := ⟨rfl, rfl, rfl, by decide +kernel, rfl, by decide +kernel, by decide +kernel⟩
theorem ok__law_less {P : Program} {w : World} {K : PySem.W.Frag} {mg : Str → Option Value} {base : Heap} {a_is_floor : Addr} (T : Txt K mg a_is_floor)
    (G__law_part : DefOk P w K mg base "_law_part" (topS 41) ["one", "two"] 1 none false (F__law_part)) : DefOk P w K mg base "_law_less" (topS 43) ["one", "two"] 2 none false F__law_less :=
  def_ok (k := 1) (io := none) (fr := false) (N := ["one", "two"]) (T := [0, 1]) (b := B__law_less) T.d__law_less sc__law_less fun f cdv A outer s H E hr tk hp =>
  have hN := sc__law_less.nd
  (ss_one (ss_ret (se_call G__law_part hr tk (sd_cons (se_sub (se_mul (se_ix (se_var 0) se_int) (se_ix (se_var 1) se_int)) (se_mul (se_ix (se_var 1) se_int) (se_ix (se_var 0) se_int))) (sd_cons (se_mul (se_ix (se_var 0) se_int) (se_ix (se_var 1) se_int)) sd_nil)))))
theorem sc__law_is_below : FnScope ["one", "two"] ["one", "two"] (defScope (topS 44)) := ⟨rfl, rfl, rfl, by decide +kernel, rfl, by decide +kernel, by decide +kernel⟩
theorem ok__law_is_below {P : Program} {w : World} {K : PySem.W.Frag} {mg : Str → Option Value} {base : Heap} {a_is_floor : Addr} (T : Txt K mg a_is_floor) : DefOk P w K mg base "_law_is_below" (topS 44) ["one", "two"] 1 none false F__law_is_below :=
  def_ok (k := 0) (io := none) (fr := false) (N := ["one", "two"]) (T := [0, 1]) (b := B__law_is_below) T.d__law_is_below sc__law_is_below fun f cdv A outer s H E hr tk hp =>
  have hN := sc__law_is_below.nd
  (ss_one (ss_ret (se_lt (se_mul (se_ix (se_var 0) se_int) (se_ix (se_var 1) se_int)) (se_mul (se_ix (se_var 1) se_int) (se_ix (se_var 0) se_int)))))
theorem sc__law_total : FnScope ["some", "found", "each"] ["some"] (defScope (topS 45)) := ⟨rfl, rfl, rfl, by decide +kernel, rfl, by decide +kernel, by decide +kernel⟩
theorem ok__law_total {P : Program} {w : World} {K : PySem.W.Frag} {mg : Str → Option Value} {base : Heap} {a_is_floor : Addr} (T : Txt K mg a_is_floor)
    (G__law_plus : DefOk P w K mg base "_law_plus" (topS 42) ["one", "two"] 2 none false (F__law_plus)) : DefOk P w K mg base "_law_total" (topS 45) ["some"] 3 none false F__law_total :=
  def_ok (k := 2) (io := none) (fr := false) (N := ["some", "found", "each"]) (T := [0, 1, 2]) (b := B__law_total) T.d__law_total sc__law_total fun f cdv A outer s H E hr tk hp =>
  have hN := sc__law_total.nd
  (ss_cons (ss_set 1 hN (se_tup (sd_cons se_int (sd_cons se_int sd_nil)))) (ss_cons (ss_for rfl hp (si_row (se_var 0)) (sg_name 2 hN) (ss_one (ss_set 1 hN (se_call G__law_plus hr tk (sd_cons (se_var 1) (sd_cons (se_var 2) sd_nil)))))) (ss_one (ss_ret (se_var 1)))))
theorem sc__law_floors : FnScope ["well", "most", "great", "each"] ["well", "most"] (defScope (topS 46)) := ⟨rfl, rfl, rfl, by decide +kernel, rfl, by decide +kernel, by decide +kernel⟩
theorem ok__law_floors {P : Program} {w : World} {K : PySem.W.Frag} {mg : Str → Option Value} {base : Heap} {a_is_floor : Addr} (T : Txt K mg a_is_floor)
    (G__law_of : DefOk P w K mg base "_law_of" (topS 39) ["well", "things"] 2 (some 0) false (F__law_of))
    (G__law_take : DefOk P w K mg base "_law_take" (topS 38) ["well", "many"] 1 (some 0) false (F__law_take)) : DefOk P w K mg base "_law_floors" (topS 46) ["well", "most"] 3 (some 0) false F__law_floors :=
  def_ok (k := 2) (io := (some 0)) (fr := false) (N := ["well", "most", "great", "each"]) (T := [0, 1, 2, 3]) (b := B__law_floors) T.d__law_floors sc__law_floors fun f cdv A outer s H E hr tk hp =>
  have hN := sc__law_floors.nd
  (ss_cons (ss_set 2 hN (se_callI G__law_of hr tk (sa_late 0 (sa_val (se_tup (sd_cons se_int (sd_cons se_int (sd_cons se_int sd_nil)))) sa_nil)))) (ss_one (ss_ret (se_bt call_tuple_of ok_tup T.b_tuple (sd_cons (SL.se (el_comp [("each", 3)] rfl hN (si_range1 T.b_range (sd_cons (se_add se_int (se_callI G__law_take (hr.mono (by decide)) tk (sa_late 0 (sa_val (se_var 1) sa_nil)))) sd_nil)) (fun _ _ _ _ _ => (sg_name 3 hN)) (fun _ _ _ _ _ => sts_nil) (fun _ _ _ _ _ => (se_sub (se_callI G__law_take (hr.mono (by decide)) takes0 (sa_late 0 (sa_val (se_add (se_mul se_int (se_var 2)) se_int) sa_nil))) (se_var 2))) (blkOk_by (N := ["well", "most", "great", "each"]) (sc := defScope (topS 46)) (by decide +kernel)))) sd_nil) (by decide +kernel)))))
theorem sc__law_waters : FnScope ["floors", "poured", "low", "many", "level", "floor"] ["floors", "poured"] (defScope (topS 47)) := ⟨rfl, rfl, rfl, by decide +kernel, rfl, by decide +kernel, by decide +kernel⟩
theorem ok__law_waters {P : Program} {w : World} {K : PySem.W.Frag} {mg : Str → Option Value} {base : Heap} {a_is_floor : Addr} (T : Txt K mg a_is_floor)
    (G__law_part : DefOk P w K mg base "_law_part" (topS 41) ["one", "two"] 1 none false (F__law_part))
    (G__law_is_below : DefOk P w K mg base "_law_is_below" (topS 44) ["one", "two"] 1 none false (F__law_is_below))
    (G__law_less : DefOk P w K mg base "_law_less" (topS 43) ["one", "two"] 2 none false (F__law_less)) : DefOk P w K mg base "_law_waters" (topS 47) ["floors", "poured"] 3 none false F__law_waters :=
  def_ok (k := 2) (io := none) (fr := false) (N := ["floors", "poured", "low", "many", "level", "floor"]) (T := [0, 1, 2, 3, 4, 5]) (b := B__law_waters) T.d__law_waters sc__law_waters fun f cdv A outer s H E hr tk hp =>
  have hN := sc__law_waters.nd
  (ss_cons (ss_if (st_eq hr.units (se_var 1) se_int) (ss_one (ss_ret (se_tup (sd_cons (se_bt call_tuple_of ok_tup T.b_tuple (sd_cons (SL.se (el_comp [("floor", 5)] rfl hN (si_row (se_var 0)) (fun _ _ _ _ _ => (sg_name 5 hN)) (fun _ _ _ _ _ => sts_nil) (fun _ _ _ _ _ => (se_tup (sd_cons se_int (sd_cons se_int sd_nil)))) (blkOk_by (N := ["floors", "poured", "low", "many", "level", "floor"]) (sc := defScope (topS 47)) (by decide +kernel)))) sd_nil) (by decide +kernel)) (sd_cons se_non sd_nil))))) ss_nil) (ss_cons (ss_set 2 hN (SL.se (el_sort T.b_sorted (sd_cons (se_var 0) sd_nil)))) (ss_cons (ss_for rfl hp (si_range2 T.b_range (sd_cons se_int (sd_cons (se_add (se_b call_len ok_len T.b_len (sd_cons (se_var 2) sd_nil) (by decide +kernel)) se_int) sd_nil))) (sg_name 3 hN) (ss_cons (ss_set 4 hN (se_call G__law_part (hr.mono (by decide)) tk (sd_cons (se_add (se_var 1) (se_b (cr_sum2 rfl) ok_sum T.b_sum (sd_cons (se_cut (se_var 2) so_none (so_some (se_var 3))) sd_nil) (by decide +kernel))) (sd_cons (se_var 3) sd_nil)))) (ss_one (ss_if (SW.pt (sw_or (st_eq hr.units (se_var 3) (se_b call_len ok_len T.b_len (sd_cons (se_var 2) sd_nil) (by decide +kernel))) (sw_or1 (st_not (st_of (se_call G__law_is_below (hr.mono (by decide)) tk (sd_cons (se_tup (sd_cons (se_ix (se_var 2) (se_var 3)) (sd_cons se_int sd_nil))) (sd_cons (se_var 4) sd_nil)))))))) (ss_one (ss_ret (se_tup (sd_cons (se_bt call_tuple_of ok_tup T.b_tuple (sd_cons (SL.se (el_comp [("floor", 5)] rfl hN (si_row (se_var 0)) (fun _ _ _ _ _ => (sg_name 5 hN)) (fun _ _ _ _ _ => sts_nil) (fun _ _ _ _ _ => (se_if (st_of (se_call G__law_is_below (hr.mono (by decide)) takes0 (sd_cons (se_tup (sd_cons (se_var 5) (sd_cons se_int sd_nil))) (sd_cons (se_var 4) sd_nil)))) (se_call G__law_less hr takes0 (sd_cons (se_var 4) (sd_cons (se_tup (sd_cons (se_var 5) (sd_cons se_int sd_nil))) sd_nil))) (se_tup (sd_cons se_int (sd_cons se_int sd_nil))))) (blkOk_by (N := ["floors", "poured", "low", "many", "level", "floor"]) (sc := defScope (topS 47)) (by decide +kernel)))) sd_nil) (by decide +kernel)) (sd_cons (se_var 4) sd_nil))))) ss_nil)))) (ss_one (ss_ret se_non)))))
theorem sc__law_poured_for : FnScope ["floors", "height", "floor"] ["floors", "height"] (defScope (topS 48)) := ⟨rfl, rfl, rfl, by decide +kernel, rfl, by decide +kernel, by decide +kernel⟩
theorem ok__law_poured_for {P : Program} {w : World} {K : PySem.W.Frag} {mg : Str → Option Value} {base : Heap} {a_is_floor : Addr} (T : Txt K mg a_is_floor)
    (G__law_total : DefOk P w K mg base "_law_total" (topS 45) ["some"] 3 none false (F__law_total))
    (G__law_less : DefOk P w K mg base "_law_less" (topS 43) ["one", "two"] 2 none false (F__law_less))
    (G__law_is_below : DefOk P w K mg base "_law_is_below" (topS 44) ["one", "two"] 1 none false (F__law_is_below)) : DefOk P w K mg base "_law_poured_for" (topS 48) ["floors", "height"] 4 none false F__law_poured_for :=
  def_ok (k := 3) (io := none) (fr := false) (N := ["floors", "height", "floor"]) (T := [0, 1, 2]) (b := B__law_poured_for) T.d__law_poured_for sc__law_poured_for fun f cdv A outer s H E hr tk hp =>
  have hN := sc__law_poured_for.nd
  (ss_one (ss_ret (se_call G__law_total hr tk (sd_cons (SL.se (el_comp [("floor", 2)] rfl hN (si_row (se_var 0)) (fun _ _ _ _ _ => (sg_name 2 hN)) (fun _ _ _ _ _ => (sts_one (st_of (se_call G__law_is_below (hr.mono (by decide)) takes0 (sd_cons (se_tup (sd_cons (se_var 2) (sd_cons se_int sd_nil))) (sd_cons (se_var 1) sd_nil)))))) (fun _ _ _ _ _ => (se_call G__law_less (hr.mono (by decide)) takes0 (sd_cons (se_var 1) (sd_cons (se_tup (sd_cons (se_var 2) (sd_cons se_int sd_nil))) sd_nil)))) (blkOk_by (N := ["floors", "height", "floor"]) (sc := defScope (topS 48)) (by decide +kernel)))) sd_nil))))
theorem sc__law_is_told : FnScope ["well", "floors", "poured", "height", "due", "told", "own", "rows", "k"] ["well", "floors", "poured", "height"] (defScope (topS 49)) := ⟨rfl, rfl, rfl, by decide +kernel, rfl, by decide +kernel, by decide +kernel⟩
theorem ok__law_is_told {P : Program} {w : World} {K : PySem.W.Frag} {mg : Str → Option Value} {base : Heap} {a_is_floor : Addr} (T : Txt K mg a_is_floor)
    (G__law_waters : DefOk P w K mg base "_law_waters" (topS 47) ["floors", "poured"] 3 none false (F__law_waters))
    (G_flood_level : DefOk P w K mg base "flood_level" (topS 34) ["floors", "number"] 7 none false (F_flood_level))
    (G_waters : DefOk P w K mg base "waters" (topS 33) ["floors", "number"] 7 none false (F_waters))
    (G_poured_for : DefOk P w K mg base "poured_for" (topS 35) ["floors", "fraction"] 6 none false (F_poured_for))
    (G__law_same : DefOk P w K mg base "_law_same" (topS 40) ["told", "due"] 11 none false (F__law_same 10))
    (G__law_take : DefOk P w K mg base "_law_take" (topS 38) ["well", "many"] 1 (some 0) false (F__law_take))
    (G__law_poured_for : DefOk P w K mg base "_law_poured_for" (topS 48) ["floors", "height"] 4 none false (F__law_poured_for))
    (G__law_is_below : DefOk P w K mg base "_law_is_below" (topS 44) ["one", "two"] 1 none false (F__law_is_below))
    (G__law_plus : DefOk P w K mg base "_law_plus" (topS 42) ["one", "two"] 2 none false (F__law_plus)) : DefOk P w K mg base "_law_is_told" (topS 49) ["well", "floors", "poured", "height"] 12 (some 0) false F__law_is_told :=
  def_ok (k := 11) (io := (some 0)) (fr := false) (N := ["well", "floors", "poured", "height", "due", "told", "own", "rows", "k"]) (T := [0, 1, 2, 3, 4, 5, 6, 7, 8]) (b := B__law_is_told) T.d__law_is_told sc__law_is_told fun f cdv A outer s H E hr tk hp =>
  have hN := sc__law_is_told.nd
  (ss_cons (ss_set 4 hN (se_ix (se_call G__law_waters (hr.mono (by decide)) tk (sd_cons (se_var 1) (sd_cons (se_var 2) sd_nil))) se_int)) (ss_cons (ss_set 5 hN (se_if (st_eq hr.units (se_callI G__law_take (hr.mono (by decide)) tk (sa_late 0 (sa_val se_int sa_nil))) se_int) (se_call G_flood_level (hr.mono (by decide)) tk (sd_cons (se_var 1) (sd_cons (se_var 2) sd_nil))) (se_callKw (ks := ["number", "floors"]) [1, 0] G_flood_level (hr.mono (by decide)) tk (sk_cons (se_var 2) (sk_cons (se_var 1) sk_nil)) (fun _ _ _ _ _ _ ws hl => match ws, hl with | [_, _], _ => rfl)))) (ss_cons (ss_if (SW.pt (sw_or (st_not (st_of (se_call G__law_same hr tk (sd_cons (se_var 5) (sd_cons (se_var 4) sd_nil))))) (sw_or1 (st_ne hr.units (se_isN (se_var 5) se_non) (se_eq hr.units (se_var 2) se_int))))) (ss_one (ss_ret se_bl)) ss_nil) (ss_cons (ss_if (st_notN (se_var 5) se_non) (ss_cons (ss_set 7 hN (se_call G_waters (hr.mono (by decide)) tk (sd_cons (se_var 1) (sd_cons (se_var 2) sd_nil)))) (ss_cons (ss_if (SW.pt (sw_or (st_ne hr.units (se_call G_poured_for (hr.mono (by decide)) tk (sd_cons (se_var 1) (sd_cons (se_var 5) sd_nil))) (se_tup (sd_cons (se_var 2) (sd_cons se_int sd_nil)))) (sw_or1 (st_of (se_b (cr_any rfl) ok_any T.b_any (sd_cons (SL.se (el_comp [("k", 8)] rfl hN (si_range1 T.b_range (sd_cons (se_b call_len ok_len T.b_len (sd_cons (se_var 1) sd_nil) (by decide +kernel)) sd_nil)) (fun _ _ _ _ _ => (sg_name 8 hN)) (fun _ _ _ _ _ => sts_nil) (fun _ _ _ _ _ => (se_and (se_gt (se_ix (se_ix (se_var 7) (se_var 8)) se_int) se_int) (se_one (se_ne hr.units (se_call G__law_plus (hr.mono (by decide)) takes0 (sd_cons (se_tup (sd_cons (se_ix (se_var 1) (se_var 8)) (sd_cons se_int sd_nil))) (sd_cons (se_ix (se_var 7) (se_var 8)) sd_nil))) (se_var 5))))) (blkOk_by (N := ["well", "floors", "poured", "height", "due", "told", "own", "rows", "k"]) (sc := defScope (topS 49)) (by decide +kernel)))) sd_nil) (by decide +kernel)))))) (ss_one (ss_ret se_bl)) ss_nil) (ss_one (ss_if (SW.pt (sw_and (st_lt (se_var 2) se_int) (sw_and1 (st_not (st_of (se_call G__law_is_below (hr.mono (by decide)) tk (sd_cons (se_var 5) (sd_cons (se_call G_flood_level (hr.mono (by decide)) tk (sd_cons (se_var 1) (sd_cons (se_add (se_var 2) se_int) sd_nil))) sd_nil)))))))) (ss_one (ss_ret se_bl)) ss_nil)))) ss_nil) (ss_cons (ss_set 6 hN (se_if (st_eq hr.units (se_callI G__law_take (hr.mono (by decide)) tk (sa_late 0 (sa_val se_int sa_nil))) se_int) (se_call G_poured_for (hr.mono (by decide)) tk (sd_cons (se_var 1) (sd_cons (se_var 3) sd_nil))) (se_callKw (ks := ["fraction", "floors"]) [1, 0] G_poured_for (hr.mono (by decide)) tk (sk_cons (se_var 3) (sk_cons (se_var 1) sk_nil)) (fun _ _ _ _ _ _ ws hl => match ws, hl with | [_, _], _ => rfl)))) (ss_cons (ss_if (st_not (st_of (se_call G__law_same hr tk (sd_cons (se_var 6) (sd_cons (se_call G__law_poured_for (hr.mono (by decide)) tk (sd_cons (se_var 1) (sd_cons (se_var 3) sd_nil))) sd_nil))))) (ss_one (ss_ret se_bl)) ss_nil) (ss_one (ss_ret (se_and (se_not (se_call G__law_is_below (hr.mono (by decide)) tk (sd_cons (se_call G_poured_for (hr.mono (by decide)) tk (sd_cons (se_var 1) (sd_cons (se_call G__law_plus (hr.mono (by decide)) tk (sd_cons (se_var 3) (sd_cons (se_tup (sd_cons se_int (sd_cons se_int sd_nil))) sd_nil))) sd_nil))) (sd_cons (se_var 6) sd_nil)))) (se_one (se_call G__law_same hr tk (sd_cons (se_call G_poured_for (hr.mono (by decide)) tk (sd_cons (se_var 1) (sd_cons (se_tup (sd_cons (se_b (cr_minQ rfl hr.units) ok_min T.b_min (sd_cons (se_var 1) sd_nil) (by decide +kernel)) (sd_cons se_int sd_nil))) sd_nil))) (sd_cons (se_tup (sd_cons se_int (sd_cons se_int sd_nil))) sd_nil)))))))))))))
theorem sc__law_right : FnScope ["well", "turn", "floors", "height"] ["well"] (defScope (topS 50)) := ⟨rfl, rfl, rfl, by decide +kernel, rfl, by decide +kernel, by decide +kernel⟩
theorem ok__law_right {P : Program} {w : World} {K : PySem.W.Frag} {mg : Str → Option Value} {base : Heap} {a_is_floor : Addr} (T : Txt K mg a_is_floor)
    (G__law_same : DefOk P w K mg base "_law_same" (topS 40) ["told", "due"] 11 none false (F__law_same 10))
    (G__law_floors : DefOk P w K mg base "_law_floors" (topS 46) ["well", "most"] 3 (some 0) false (F__law_floors))
    (G__law_plus : DefOk P w K mg base "_law_plus" (topS 42) ["one", "two"] 2 none false (F__law_plus))
    (G__law_part : DefOk P w K mg base "_law_part" (topS 41) ["one", "two"] 1 none false (F__law_part))
    (G__law_is_told : DefOk P w K mg base "_law_is_told" (topS 49) ["well", "floors", "poured", "height"] 12 (some 0) false (F__law_is_told))
    (G_flood_level : DefOk P w K mg base "flood_level" (topS 34) ["floors", "number"] 7 none false (F_flood_level))
    (G_poured_for : DefOk P w K mg base "poured_for" (topS 35) ["floors", "fraction"] 6 none false (F_poured_for))
    (G__law_of : DefOk P w K mg base "_law_of" (topS 39) ["well", "things"] 2 (some 0) false (F__law_of))
    (G__law_take : DefOk P w K mg base "_law_take" (topS 38) ["well", "many"] 1 (some 0) false (F__law_take)) : DefOk P w K mg base "_law_right" (topS 50) ["well"] 13 (some 0) false F__law_right :=
  def_ok (k := 12) (io := (some 0)) (fr := false) (N := ["well", "turn", "floors", "height"]) (T := [0, 1, 2, 3]) (b := B__law_right) T.d__law_right sc__law_right fun f cdv A outer s H E hr tk hp =>
  have hN := sc__law_right.nd
  (ss_cons (ss_for rfl hp (si_range1 T.b_range (sd_cons se_int sd_nil)) (sg_name 1 hN) (ss_cons (ss_set 2 hN (se_callI G__law_floors (hr.mono (by decide)) tk (sa_late 0 (sa_val se_int sa_nil)))) (ss_cons (ss_set 3 hN (se_call G__law_plus (hr.mono (by decide)) tk (sd_cons (se_tup (sd_cons (se_callI G__law_of (hr.mono (by decide)) tk (sa_late 0 (sa_val (se_var 2) sa_nil))) (sd_cons se_int sd_nil))) (sd_cons (se_call G__law_part (hr.mono (by decide)) tk (sd_cons (se_sub (se_callI G__law_take (hr.mono (by decide)) tk (sa_late 0 (sa_val se_int sa_nil))) se_int) (sd_cons (se_add se_int (se_callI G__law_take (hr.mono (by decide)) tk (sa_late 0 (sa_val se_int sa_nil)))) sd_nil))) sd_nil)))) (ss_one (ss_if (st_not (st_of (se_callI G__law_is_told hr tk (sa_late 0 (sa_val (se_var 2) (sa_val (se_callI G__law_take (hr.mono (by decide)) tk (sa_late 0 (sa_val (se_callI G__law_of (hr.mono (by decide)) tk (sa_late 0 (sa_val (se_tup (sd_cons se_int (sd_cons se_int (sd_cons se_int (sd_cons se_int sd_nil))))) sa_nil))) sa_nil))) (sa_val (se_var 3) sa_nil))))))) (ss_one (ss_ret se_bl)) ss_nil))))) (ss_one (ss_ret (se_call G__law_same (hr.mono (by decide)) tk (sd_cons (SL.se (el_lst (sd_cons (se_call G_flood_level (hr.mono (by decide)) tk (sd_cons (se_tup (sd_cons se_int (sd_cons se_int (sd_cons se_int sd_nil)))) (sd_cons se_int sd_nil))) (sd_cons (se_call G_poured_for (hr.mono (by decide)) tk (sd_cons (se_tup (sd_cons se_int (sd_cons se_int (sd_cons se_int sd_nil)))) (sd_cons (se_tup (sd_cons se_int (sd_cons se_int sd_nil))) sd_nil))) (sd_cons (se_call G_flood_level (hr.mono (by decide)) tk (sd_cons (se_tup (sd_cons se_int (sd_cons se_int sd_nil))) (sd_cons se_int sd_nil))) (sd_cons (se_call G_poured_for (hr.mono (by decide)) tk (sd_cons (se_tup (sd_cons se_int (sd_cons se_int sd_nil))) (sd_cons (se_tup (sd_cons (se_sub se_int se_int) (sd_cons se_int sd_nil))) sd_nil))) sd_nil)))))) (sd_cons (SL.se (el_lst (sd_cons (se_tup (sd_cons se_int (sd_cons se_int sd_nil))) (sd_cons (se_tup (sd_cons se_int (sd_cons se_int sd_nil))) (sd_cons se_non (sd_cons (se_tup (sd_cons se_int (sd_cons se_int sd_nil))) sd_nil)))))) sd_nil))))))
theorem sc_law : FnScope ["script", "lap"] ["script"] (defScope (topS 51)) := ⟨rfl, rfl, rfl, by decide +kernel, rfl, by decide +kernel, by decide +kernel⟩
theorem ok_law {P : Program} {w : World} {K : PySem.W.Frag} {mg : Str → Option Value} {base : Heap} {a_is_floor : Addr} (T : Txt K mg a_is_floor)
    (G__law_right : DefOk P w K mg base "_law_right" (topS 50) ["well"] 13 (some 0) false (F__law_right))
    (G__law_well : DefOk P w K mg base "_law_well" (topS 37) ["script", "lap"] 1 none true (F__law_well)) : DefOk P w K mg base "law" (topS 51) ["script"] 14 none false F_law :=
  def_ok (k := 13) (io := none) (fr := false) (N := ["script", "lap"]) (T := [0, 1]) (b := B_law) T.d_law sc_law fun f cdv A outer s H E hr tk hp =>
  have hN := sc_law.nd
  (ss_one (ss_ret (se_b (cr_all rfl) ok_all T.b_all (sd_cons (SL.se (el_comp [("lap", 1)] rfl hN (si_range1 T.b_range (sd_cons (se_b (call_max2 rfl) ok_int2 T.b_max (sd_cons se_int (sd_cons (se_b (call_min2 rfl) ok_int2 T.b_min (sd_cons (se_b call_len ok_len T.b_len (sd_cons (se_var 0) sd_nil) (by decide +kernel)) (sd_cons se_int sd_nil)) (by decide +kernel)) sd_nil)) (by decide +kernel)) sd_nil)) (fun _ _ _ _ _ => (sg_name 1 hN)) (fun _ _ _ _ _ => sts_nil) (fun _ _ _ _ _ => (se_callN G__law_right hr takes0 (sp_new (el_call G__law_well (hr.mono (by decide)) takes0 (sd_cons (se_var 0) (sd_cons (se_var 1) sd_nil))) sp_nil))) (blkOk_by (N := ["script", "lap"]) (sc := defScope (topS 51)) (by decide +kernel)))) sd_nil) (by decide +kernel))))
theorem ok_every {P : Program} {w : World} {K : PySem.W.Frag} {mg : Str → Option Value} {base : Heap} {a_is_floor : Addr} (T : Txt K mg a_is_floor) : DefOk P w K mg base "law" (topS 51) ["script"] 14 none false F_law :=
  have G_is_whole := ok_is_whole (P := P) (w := w) (base := base) T
  have G_is_between := ok_is_between (P := P) (w := w) (base := base) T G_is_whole
  have G_is_tuple_of := ok_is_tuple_of (P := P) (w := w) (base := base) T
  have G_is_floor := ok_is_floor (P := P) (w := w) (base := base) T G_is_between
  have G_first_wrong__is_floor := ok_first_wrong__is_floor (P := P) (w := w) (base := base) T G_is_floor
  have G_fraction := ok_fraction (P := P) (w := w) (base := base) T
  have G_is_fraction_by := ok_is_fraction_by (P := P) (w := w) (base := base) T G_is_tuple_of G_is_whole
  have G_whole := ok_whole (P := P) (w := w) (base := base) T
  have G_sum_of := ok_sum_of (P := P) (w := w) (base := base) T G_fraction
  have G_less := ok_less (P := P) (w := w) (base := base) T G_fraction
  have G_is_less := ok_is_less (P := P) (w := w) (base := base) T
  have G_total := ok_total (P := P) (w := w) (base := base) T G_sum_of
  have G_check_fraction := ok_check_fraction (P := P) (w := w) (base := base) T G_is_fraction_by
  have G_check_number := ok_check_number (P := P) (w := w) (base := base) T G_is_between
  have G_flood_level_by := ok_flood_level_by (P := P) (w := w) (base := base) T G_fraction G_is_less G_whole
  have G_depth_at := ok_depth_at (P := P) (w := w) (base := base) T G_less G_whole
  have G_waters_by := ok_waters_by (P := P) (w := w) (base := base) T G_flood_level_by G_depth_at
  have G_poured_for_by := ok_poured_for_by (P := P) (w := w) (base := base) T G_total G_depth_at
  have G_check_floors := ok_check_floors (P := P) (w := w) (base := base) T G_first_wrong__is_floor
  have G_check_flood := ok_check_flood (P := P) (w := w) (base := base) T G_check_floors G_check_number
  have G_waters := ok_waters (P := P) (w := w) (base := base) T G_check_flood G_waters_by
  have G_flood_level := ok_flood_level (P := P) (w := w) (base := base) T G_check_flood G_flood_level_by
  have G_poured_for := ok_poured_for (P := P) (w := w) (base := base) T G_check_floors G_check_fraction G_poured_for_by
  have G__law_well := ok__law_well (P := P) (w := w) (base := base) T
  have G__law_take := ok__law_take (P := P) (w := w) (base := base) T
  have G__law_of := ok__law_of (P := P) (w := w) (base := base) T G__law_take
  have G__law_same := ok__law_same (P := P) (w := w) (base := base) T 10
  have G__law_part := ok__law_part (P := P) (w := w) (base := base) T
  have G__law_plus := ok__law_plus (P := P) (w := w) (base := base) T G__law_part
  have G__law_less := ok__law_less (P := P) (w := w) (base := base) T G__law_part
  have G__law_is_below := ok__law_is_below (P := P) (w := w) (base := base) T
  have G__law_total := ok__law_total (P := P) (w := w) (base := base) T G__law_plus
  have G__law_floors := ok__law_floors (P := P) (w := w) (base := base) T G__law_of G__law_take
  have G__law_waters := ok__law_waters (P := P) (w := w) (base := base) T G__law_part G__law_is_below G__law_less
  have G__law_poured_for := ok__law_poured_for (P := P) (w := w) (base := base) T G__law_total G__law_less G__law_is_below
  have G__law_is_told := ok__law_is_told (P := P) (w := w) (base := base) T G__law_waters G_flood_level G_waters G_poured_for G__law_same G__law_take G__law_poured_for G__law_is_below G__law_plus
  have G__law_right := ok__law_right (P := P) (w := w) (base := base) T G__law_same G__law_floors G__law_plus G__law_part G__law_is_told G_flood_level G_poured_for G__law_of G__law_take
  have G_law := ok_law (P := P) (w := w) (base := base) T G__law_right G__law_well
  G_law
end FL
namespace FL
open PySem PySem.Spec L2
theorem all_mk {l : PySem.W.OpenLaw} {w : World} {K : PySem.W.Frag} {h : Heap} {mg : Str → Option Value} {fa : Addr} (pl : Plain F_law) (X : K.In h) (G : h.Ns mainGlobals mg) (hfa : mg "law" = some (.ref fa))
    {od0 an0 : Option Addr} {sl0 : Array (Option Value)} {oc0 kV0 dc0 pm0 cd0 ct0 : Value} {f0 : Addr} (a0 : PySem.W.nsIn K mainGlobals "is_whole" = some (some (.ref f0))) (l0 : K.lookup f0 = some ⟨oc0, od0, .func (PySem.W.fnOf "is_whole" "is_whole" (defArgs (topS 3)) (defBody (topS 3)) (defScope (topS 3)) .none kV0 dc0 pm0 an0 cd0 ct0), sl0⟩) (c0 : PySem.W.codeIn K cd0 "is_whole" = true) (k0 : PySem.W.keepIn K (.ref f0) = true)
    {od1 an1 : Option Addr} {sl1 : Array (Option Value)} {oc1 kV1 dc1 pm1 cd1 ct1 : Value} {f1 : Addr} (a1 : PySem.W.nsIn K mainGlobals "is_between" = some (some (.ref f1))) (l1 : K.lookup f1 = some ⟨oc1, od1, .func (PySem.W.fnOf "is_between" "is_between" (defArgs (topS 4)) (defBody (topS 4)) (defScope (topS 4)) .none kV1 dc1 pm1 an1 cd1 ct1), sl1⟩) (c1 : PySem.W.codeIn K cd1 "is_between" = true) (k1 : PySem.W.keepIn K (.ref f1) = true)
    {od2 an2 : Option Addr} {sl2 : Array (Option Value)} {oc2 kV2 dc2 pm2 cd2 ct2 : Value} {f2 : Addr} (a2 : PySem.W.nsIn K mainGlobals "is_tuple_of" = some (some (.ref f2))) (l2 : K.lookup f2 = some ⟨oc2, od2, .func (PySem.W.fnOf "is_tuple_of" "is_tuple_of" (defArgs (topS 5)) (defBody (topS 5)) (defScope (topS 5)) .none kV2 dc2 pm2 an2 cd2 ct2), sl2⟩) (c2 : PySem.W.codeIn K cd2 "is_tuple_of" = true) (k2 : PySem.W.keepIn K (.ref f2) = true)
    {od3 an3 : Option Addr} {sl3 : Array (Option Value)} {oc3 kV3 dc3 pm3 cd3 ct3 : Value} {f3 : Addr} (a3 : PySem.W.nsIn K mainGlobals "first_wrong" = some (some (.ref f3))) (l3 : K.lookup f3 = some ⟨oc3, od3, .func (PySem.W.fnOf "first_wrong" "first_wrong" (defArgs (topS 6)) (defBody (topS 6)) (defScope (topS 6)) .none kV3 dc3 pm3 an3 cd3 ct3), sl3⟩) (c3 : PySem.W.codeIn K cd3 "first_wrong" = true) (k3 : PySem.W.keepIn K (.ref f3) = true)
    {od4 an4 : Option Addr} {sl4 : Array (Option Value)} {oc4 kV4 dc4 pm4 cd4 ct4 : Value} {f4 : Addr} (a4 : PySem.W.nsIn K mainGlobals "fraction" = some (some (.ref f4))) (l4 : K.lookup f4 = some ⟨oc4, od4, .func (PySem.W.fnOf "fraction" "fraction" (defArgs (topS 7)) (defBody (topS 7)) (defScope (topS 7)) .none kV4 dc4 pm4 an4 cd4 ct4), sl4⟩) (c4 : PySem.W.codeIn K cd4 "fraction" = true) (k4 : PySem.W.keepIn K (.ref f4) = true)
    {od5 an5 : Option Addr} {sl5 : Array (Option Value)} {oc5 kV5 dc5 pm5 cd5 ct5 : Value} {f5 : Addr} (a5 : PySem.W.nsIn K mainGlobals "is_fraction_by" = some (some (.ref f5))) (l5 : K.lookup f5 = some ⟨oc5, od5, .func (PySem.W.fnOf "is_fraction_by" "is_fraction_by" (defArgs (topS 8)) (defBody (topS 8)) (defScope (topS 8)) .none kV5 dc5 pm5 an5 cd5 ct5), sl5⟩) (c5 : PySem.W.codeIn K cd5 "is_fraction_by" = true) (k5 : PySem.W.keepIn K (.ref f5) = true)
    {od6 an6 : Option Addr} {sl6 : Array (Option Value)} {oc6 kV6 dc6 pm6 cd6 ct6 : Value} {f6 : Addr} (a6 : PySem.W.nsIn K mainGlobals "whole" = some (some (.ref f6))) (l6 : K.lookup f6 = some ⟨oc6, od6, .func (PySem.W.fnOf "whole" "whole" (defArgs (topS 9)) (defBody (topS 9)) (defScope (topS 9)) .none kV6 dc6 pm6 an6 cd6 ct6), sl6⟩) (c6 : PySem.W.codeIn K cd6 "whole" = true) (k6 : PySem.W.keepIn K (.ref f6) = true)
    {od7 an7 : Option Addr} {sl7 : Array (Option Value)} {oc7 kV7 dc7 pm7 cd7 ct7 : Value} {f7 : Addr} (a7 : PySem.W.nsIn K mainGlobals "sum_of" = some (some (.ref f7))) (l7 : K.lookup f7 = some ⟨oc7, od7, .func (PySem.W.fnOf "sum_of" "sum_of" (defArgs (topS 10)) (defBody (topS 10)) (defScope (topS 10)) .none kV7 dc7 pm7 an7 cd7 ct7), sl7⟩) (c7 : PySem.W.codeIn K cd7 "sum_of" = true) (k7 : PySem.W.keepIn K (.ref f7) = true)
    {od8 an8 : Option Addr} {sl8 : Array (Option Value)} {oc8 kV8 dc8 pm8 cd8 ct8 : Value} {f8 : Addr} (a8 : PySem.W.nsIn K mainGlobals "less" = some (some (.ref f8))) (l8 : K.lookup f8 = some ⟨oc8, od8, .func (PySem.W.fnOf "less" "less" (defArgs (topS 11)) (defBody (topS 11)) (defScope (topS 11)) .none kV8 dc8 pm8 an8 cd8 ct8), sl8⟩) (c8 : PySem.W.codeIn K cd8 "less" = true) (k8 : PySem.W.keepIn K (.ref f8) = true)
    {od9 an9 : Option Addr} {sl9 : Array (Option Value)} {oc9 kV9 dc9 pm9 cd9 ct9 : Value} {f9 : Addr} (a9 : PySem.W.nsIn K mainGlobals "is_less" = some (some (.ref f9))) (l9 : K.lookup f9 = some ⟨oc9, od9, .func (PySem.W.fnOf "is_less" "is_less" (defArgs (topS 12)) (defBody (topS 12)) (defScope (topS 12)) .none kV9 dc9 pm9 an9 cd9 ct9), sl9⟩) (c9 : PySem.W.codeIn K cd9 "is_less" = true) (k9 : PySem.W.keepIn K (.ref f9) = true)
    {od10 an10 : Option Addr} {sl10 : Array (Option Value)} {oc10 kV10 dc10 pm10 cd10 ct10 : Value} {f10 : Addr} (a10 : PySem.W.nsIn K mainGlobals "total" = some (some (.ref f10))) (l10 : K.lookup f10 = some ⟨oc10, od10, .func (PySem.W.fnOf "total" "total" (defArgs (topS 13)) (defBody (topS 13)) (defScope (topS 13)) .none kV10 dc10 pm10 an10 cd10 ct10), sl10⟩) (c10 : PySem.W.codeIn K cd10 "total" = true) (k10 : PySem.W.keepIn K (.ref f10) = true)
    {od11 an11 : Option Addr} {sl11 : Array (Option Value)} {oc11 kV11 dc11 pm11 cd11 ct11 : Value} {f11 : Addr} (a11 : PySem.W.nsIn K mainGlobals "check_fraction" = some (some (.ref f11))) (l11 : K.lookup f11 = some ⟨oc11, od11, .func (PySem.W.fnOf "check_fraction" "check_fraction" (defArgs (topS 22)) (defBody (topS 22)) (defScope (topS 22)) .none kV11 dc11 pm11 an11 cd11 ct11), sl11⟩) (c11 : PySem.W.codeIn K cd11 "check_fraction" = true) (k11 : PySem.W.keepIn K (.ref f11) = true)
    {od12 an12 : Option Addr} {sl12 : Array (Option Value)} {oc12 kV12 dc12 pm12 cd12 ct12 : Value} {f12 : Addr} (a12 : PySem.W.nsIn K mainGlobals "check_number" = some (some (.ref f12))) (l12 : K.lookup f12 = some ⟨oc12, od12, .func (PySem.W.fnOf "check_number" "check_number" (defArgs (topS 23)) (defBody (topS 23)) (defScope (topS 23)) .none kV12 dc12 pm12 an12 cd12 ct12), sl12⟩) (c12 : PySem.W.codeIn K cd12 "check_number" = true) (k12 : PySem.W.keepIn K (.ref f12) = true)
    {od13 an13 : Option Addr} {sl13 : Array (Option Value)} {oc13 kV13 dc13 pm13 cd13 ct13 : Value} {f13 : Addr} (a13 : PySem.W.nsIn K mainGlobals "flood_level_by" = some (some (.ref f13))) (l13 : K.lookup f13 = some ⟨oc13, od13, .func (PySem.W.fnOf "flood_level_by" "flood_level_by" (defArgs (topS 25)) (defBody (topS 25)) (defScope (topS 25)) .none kV13 dc13 pm13 an13 cd13 ct13), sl13⟩) (c13 : PySem.W.codeIn K cd13 "flood_level_by" = true) (k13 : PySem.W.keepIn K (.ref f13) = true)
    {od14 an14 : Option Addr} {sl14 : Array (Option Value)} {oc14 kV14 dc14 pm14 cd14 ct14 : Value} {f14 : Addr} (a14 : PySem.W.nsIn K mainGlobals "depth_at" = some (some (.ref f14))) (l14 : K.lookup f14 = some ⟨oc14, od14, .func (PySem.W.fnOf "depth_at" "depth_at" (defArgs (topS 26)) (defBody (topS 26)) (defScope (topS 26)) .none kV14 dc14 pm14 an14 cd14 ct14), sl14⟩) (c14 : PySem.W.codeIn K cd14 "depth_at" = true) (k14 : PySem.W.keepIn K (.ref f14) = true)
    {od15 an15 : Option Addr} {sl15 : Array (Option Value)} {oc15 kV15 dc15 pm15 cd15 ct15 : Value} {f15 : Addr} (a15 : PySem.W.nsIn K mainGlobals "waters_by" = some (some (.ref f15))) (l15 : K.lookup f15 = some ⟨oc15, od15, .func (PySem.W.fnOf "waters_by" "waters_by" (defArgs (topS 27)) (defBody (topS 27)) (defScope (topS 27)) .none kV15 dc15 pm15 an15 cd15 ct15), sl15⟩) (c15 : PySem.W.codeIn K cd15 "waters_by" = true) (k15 : PySem.W.keepIn K (.ref f15) = true)
    {od16 an16 : Option Addr} {sl16 : Array (Option Value)} {oc16 kV16 dc16 pm16 cd16 ct16 : Value} {f16 : Addr} (a16 : PySem.W.nsIn K mainGlobals "poured_for_by" = some (some (.ref f16))) (l16 : K.lookup f16 = some ⟨oc16, od16, .func (PySem.W.fnOf "poured_for_by" "poured_for_by" (defArgs (topS 28)) (defBody (topS 28)) (defScope (topS 28)) .none kV16 dc16 pm16 an16 cd16 ct16), sl16⟩) (c16 : PySem.W.codeIn K cd16 "poured_for_by" = true) (k16 : PySem.W.keepIn K (.ref f16) = true)
    {od17 an17 : Option Addr} {sl17 : Array (Option Value)} {oc17 kV17 dc17 pm17 cd17 ct17 : Value} {f17 : Addr} (a17 : PySem.W.nsIn K mainGlobals "is_floor" = some (some (.ref f17))) (l17 : K.lookup f17 = some ⟨oc17, od17, .func (PySem.W.fnOf "is_floor" "is_floor" (defArgs (topS 30)) (defBody (topS 30)) (defScope (topS 30)) .none kV17 dc17 pm17 an17 cd17 ct17), sl17⟩) (c17 : PySem.W.codeIn K cd17 "is_floor" = true) (k17 : PySem.W.keepIn K (.ref f17) = true)
    {od18 an18 : Option Addr} {sl18 : Array (Option Value)} {oc18 kV18 dc18 pm18 cd18 ct18 : Value} {f18 : Addr} (a18 : PySem.W.nsIn K mainGlobals "check_floors" = some (some (.ref f18))) (l18 : K.lookup f18 = some ⟨oc18, od18, .func (PySem.W.fnOf "check_floors" "check_floors" (defArgs (topS 31)) (defBody (topS 31)) (defScope (topS 31)) .none kV18 dc18 pm18 an18 cd18 ct18), sl18⟩) (c18 : PySem.W.codeIn K cd18 "check_floors" = true) (k18 : PySem.W.keepIn K (.ref f18) = true)
    {od19 an19 : Option Addr} {sl19 : Array (Option Value)} {oc19 kV19 dc19 pm19 cd19 ct19 : Value} {f19 : Addr} (a19 : PySem.W.nsIn K mainGlobals "check_flood" = some (some (.ref f19))) (l19 : K.lookup f19 = some ⟨oc19, od19, .func (PySem.W.fnOf "check_flood" "check_flood" (defArgs (topS 32)) (defBody (topS 32)) (defScope (topS 32)) .none kV19 dc19 pm19 an19 cd19 ct19), sl19⟩) (c19 : PySem.W.codeIn K cd19 "check_flood" = true) (k19 : PySem.W.keepIn K (.ref f19) = true)
    {od20 an20 : Option Addr} {sl20 : Array (Option Value)} {oc20 kV20 dc20 pm20 cd20 ct20 : Value} {f20 : Addr} (a20 : PySem.W.nsIn K mainGlobals "waters" = some (some (.ref f20))) (l20 : K.lookup f20 = some ⟨oc20, od20, .func (PySem.W.fnOf "waters" "waters" (defArgs (topS 33)) (defBody (topS 33)) (defScope (topS 33)) .none kV20 dc20 pm20 an20 cd20 ct20), sl20⟩) (c20 : PySem.W.codeIn K cd20 "waters" = true) (k20 : PySem.W.keepIn K (.ref f20) = true)
    {od21 an21 : Option Addr} {sl21 : Array (Option Value)} {oc21 kV21 dc21 pm21 cd21 ct21 : Value} {f21 : Addr} (a21 : PySem.W.nsIn K mainGlobals "flood_level" = some (some (.ref f21))) (l21 : K.lookup f21 = some ⟨oc21, od21, .func (PySem.W.fnOf "flood_level" "flood_level" (defArgs (topS 34)) (defBody (topS 34)) (defScope (topS 34)) .none kV21 dc21 pm21 an21 cd21 ct21), sl21⟩) (c21 : PySem.W.codeIn K cd21 "flood_level" = true) (k21 : PySem.W.keepIn K (.ref f21) = true)
    {od22 an22 : Option Addr} {sl22 : Array (Option Value)} {oc22 kV22 dc22 pm22 cd22 ct22 : Value} {f22 : Addr} (a22 : PySem.W.nsIn K mainGlobals "poured_for" = some (some (.ref f22))) (l22 : K.lookup f22 = some ⟨oc22, od22, .func (PySem.W.fnOf "poured_for" "poured_for" (defArgs (topS 35)) (defBody (topS 35)) (defScope (topS 35)) .none kV22 dc22 pm22 an22 cd22 ct22), sl22⟩) (c22 : PySem.W.codeIn K cd22 "poured_for" = true) (k22 : PySem.W.keepIn K (.ref f22) = true)
    {od23 an23 : Option Addr} {sl23 : Array (Option Value)} {oc23 kV23 dc23 pm23 cd23 ct23 : Value} {f23 : Addr} (a23 : PySem.W.nsIn K mainGlobals "_law_well" = some (some (.ref f23))) (l23 : K.lookup f23 = some ⟨oc23, od23, .func (PySem.W.fnOf "_law_well" "_law_well" (defArgs (topS 37)) (defBody (topS 37)) (defScope (topS 37)) .none kV23 dc23 pm23 an23 cd23 ct23), sl23⟩) (c23 : PySem.W.codeIn K cd23 "_law_well" = true) (k23 : PySem.W.keepIn K (.ref f23) = true)
    {od24 an24 : Option Addr} {sl24 : Array (Option Value)} {oc24 kV24 dc24 pm24 cd24 ct24 : Value} {f24 : Addr} (a24 : PySem.W.nsIn K mainGlobals "_law_take" = some (some (.ref f24))) (l24 : K.lookup f24 = some ⟨oc24, od24, .func (PySem.W.fnOf "_law_take" "_law_take" (defArgs (topS 38)) (defBody (topS 38)) (defScope (topS 38)) .none kV24 dc24 pm24 an24 cd24 ct24), sl24⟩) (c24 : PySem.W.codeIn K cd24 "_law_take" = true) (k24 : PySem.W.keepIn K (.ref f24) = true)
    {od25 an25 : Option Addr} {sl25 : Array (Option Value)} {oc25 kV25 dc25 pm25 cd25 ct25 : Value} {f25 : Addr} (a25 : PySem.W.nsIn K mainGlobals "_law_of" = some (some (.ref f25))) (l25 : K.lookup f25 = some ⟨oc25, od25, .func (PySem.W.fnOf "_law_of" "_law_of" (defArgs (topS 39)) (defBody (topS 39)) (defScope (topS 39)) .none kV25 dc25 pm25 an25 cd25 ct25), sl25⟩) (c25 : PySem.W.codeIn K cd25 "_law_of" = true) (k25 : PySem.W.keepIn K (.ref f25) = true)
    {od26 an26 : Option Addr} {sl26 : Array (Option Value)} {oc26 kV26 dc26 pm26 cd26 ct26 : Value} {f26 : Addr} (a26 : PySem.W.nsIn K mainGlobals "_law_same" = some (some (.ref f26))) (l26 : K.lookup f26 = some ⟨oc26, od26, .func (PySem.W.fnOf "_law_same" "_law_same" (defArgs (topS 40)) (defBody (topS 40)) (defScope (topS 40)) .none kV26 dc26 pm26 an26 cd26 ct26), sl26⟩) (c26 : PySem.W.codeIn K cd26 "_law_same" = true) (k26 : PySem.W.keepIn K (.ref f26) = true)
    {od27 an27 : Option Addr} {sl27 : Array (Option Value)} {oc27 kV27 dc27 pm27 cd27 ct27 : Value} {f27 : Addr} (a27 : PySem.W.nsIn K mainGlobals "_law_part" = some (some (.ref f27))) (l27 : K.lookup f27 = some ⟨oc27, od27, .func (PySem.W.fnOf "_law_part" "_law_part" (defArgs (topS 41)) (defBody (topS 41)) (defScope (topS 41)) .none kV27 dc27 pm27 an27 cd27 ct27), sl27⟩) (c27 : PySem.W.codeIn K cd27 "_law_part" = true) (k27 : PySem.W.keepIn K (.ref f27) = true)
    {od28 an28 : Option Addr} {sl28 : Array (Option Value)} {oc28 kV28 dc28 pm28 cd28 ct28 : Value} {f28 : Addr} (a28 : PySem.W.nsIn K mainGlobals "_law_plus" = some (some (.ref f28))) (l28 : K.lookup f28 = some ⟨oc28, od28, .func (PySem.W.fnOf "_law_plus" "_law_plus" (defArgs (topS 42)) (defBody (topS 42)) (defScope (topS 42)) .none kV28 dc28 pm28 an28 cd28 ct28), sl28⟩) (c28 : PySem.W.codeIn K cd28 "_law_plus" = true) (k28 : PySem.W.keepIn K (.ref f28) = true)
    {od29 an29 : Option Addr} {sl29 : Array (Option Value)} {oc29 kV29 dc29 pm29 cd29 ct29 : Value} {f29 : Addr} (a29 : PySem.W.nsIn K mainGlobals "_law_less" = some (some (.ref f29))) (l29 : K.lookup f29 = some ⟨oc29, od29, .func (PySem.W.fnOf "_law_less" "_law_less" (defArgs (topS 43)) (defBody (topS 43)) (defScope (topS 43)) .none kV29 dc29 pm29 an29 cd29 ct29), sl29⟩) (c29 : PySem.W.codeIn K cd29 "_law_less" = true) (k29 : PySem.W.keepIn K (.ref f29) = true)
    {od30 an30 : Option Addr} {sl30 : Array (Option Value)} {oc30 kV30 dc30 pm30 cd30 ct30 : Value} {f30 : Addr} (a30 : PySem.W.nsIn K mainGlobals "_law_is_below" = some (some (.ref f30))) (l30 : K.lookup f30 = some ⟨oc30, od30, .func (PySem.W.fnOf "_law_is_below" "_law_is_below" (defArgs (topS 44)) (defBody (topS 44)) (defScope (topS 44)) .none kV30 dc30 pm30 an30 cd30 ct30), sl30⟩) (c30 : PySem.W.codeIn K cd30 "_law_is_below" = true) (k30 : PySem.W.keepIn K (.ref f30) = true)
    {od31 an31 : Option Addr} {sl31 : Array (Option Value)} {oc31 kV31 dc31 pm31 cd31 ct31 : Value} {f31 : Addr} (a31 : PySem.W.nsIn K mainGlobals "_law_total" = some (some (.ref f31))) (l31 : K.lookup f31 = some ⟨oc31, od31, .func (PySem.W.fnOf "_law_total" "_law_total" (defArgs (topS 45)) (defBody (topS 45)) (defScope (topS 45)) .none kV31 dc31 pm31 an31 cd31 ct31), sl31⟩) (c31 : PySem.W.codeIn K cd31 "_law_total" = true) (k31 : PySem.W.keepIn K (.ref f31) = true)
    {od32 an32 : Option Addr} {sl32 : Array (Option Value)} {oc32 kV32 dc32 pm32 cd32 ct32 : Value} {f32 : Addr} (a32 : PySem.W.nsIn K mainGlobals "_law_floors" = some (some (.ref f32))) (l32 : K.lookup f32 = some ⟨oc32, od32, .func (PySem.W.fnOf "_law_floors" "_law_floors" (defArgs (topS 46)) (defBody (topS 46)) (defScope (topS 46)) .none kV32 dc32 pm32 an32 cd32 ct32), sl32⟩) (c32 : PySem.W.codeIn K cd32 "_law_floors" = true) (k32 : PySem.W.keepIn K (.ref f32) = true)
    {od33 an33 : Option Addr} {sl33 : Array (Option Value)} {oc33 kV33 dc33 pm33 cd33 ct33 : Value} {f33 : Addr} (a33 : PySem.W.nsIn K mainGlobals "_law_waters" = some (some (.ref f33))) (l33 : K.lookup f33 = some ⟨oc33, od33, .func (PySem.W.fnOf "_law_waters" "_law_waters" (defArgs (topS 47)) (defBody (topS 47)) (defScope (topS 47)) .none kV33 dc33 pm33 an33 cd33 ct33), sl33⟩) (c33 : PySem.W.codeIn K cd33 "_law_waters" = true) (k33 : PySem.W.keepIn K (.ref f33) = true)
    {od34 an34 : Option Addr} {sl34 : Array (Option Value)} {oc34 kV34 dc34 pm34 cd34 ct34 : Value} {f34 : Addr} (a34 : PySem.W.nsIn K mainGlobals "_law_poured_for" = some (some (.ref f34))) (l34 : K.lookup f34 = some ⟨oc34, od34, .func (PySem.W.fnOf "_law_poured_for" "_law_poured_for" (defArgs (topS 48)) (defBody (topS 48)) (defScope (topS 48)) .none kV34 dc34 pm34 an34 cd34 ct34), sl34⟩) (c34 : PySem.W.codeIn K cd34 "_law_poured_for" = true) (k34 : PySem.W.keepIn K (.ref f34) = true)
    {od35 an35 : Option Addr} {sl35 : Array (Option Value)} {oc35 kV35 dc35 pm35 cd35 ct35 : Value} {f35 : Addr} (a35 : PySem.W.nsIn K mainGlobals "_law_is_told" = some (some (.ref f35))) (l35 : K.lookup f35 = some ⟨oc35, od35, .func (PySem.W.fnOf "_law_is_told" "_law_is_told" (defArgs (topS 49)) (defBody (topS 49)) (defScope (topS 49)) .none kV35 dc35 pm35 an35 cd35 ct35), sl35⟩) (c35 : PySem.W.codeIn K cd35 "_law_is_told" = true) (k35 : PySem.W.keepIn K (.ref f35) = true)
    {od36 an36 : Option Addr} {sl36 : Array (Option Value)} {oc36 kV36 dc36 pm36 cd36 ct36 : Value} {f36 : Addr} (a36 : PySem.W.nsIn K mainGlobals "_law_right" = some (some (.ref f36))) (l36 : K.lookup f36 = some ⟨oc36, od36, .func (PySem.W.fnOf "_law_right" "_law_right" (defArgs (topS 50)) (defBody (topS 50)) (defScope (topS 50)) .none kV36 dc36 pm36 an36 cd36 ct36), sl36⟩) (c36 : PySem.W.codeIn K cd36 "_law_right" = true) (k36 : PySem.W.keepIn K (.ref f36) = true)
    {od37 an37 : Option Addr} {sl37 : Array (Option Value)} {oc37 kV37 dc37 pm37 cd37 ct37 : Value} {f37 : Addr} (a37 : PySem.W.nsIn K mainGlobals "law" = some (some (.ref f37))) (l37 : K.lookup f37 = some ⟨oc37, od37, .func (PySem.W.fnOf "law" "law" (defArgs (topS 51)) (defBody (topS 51)) (defScope (topS 51)) .none kV37 dc37 pm37 an37 cd37 ct37), sl37⟩) (c37 : PySem.W.codeIn K cd37 "law" = true) (k37 : PySem.W.keepIn K (.ref f37) = true)
    (zb_abs : PySem.W.nsIn K mainGlobals "abs" = some none)
    (zb_all : PySem.W.nsIn K mainGlobals "all" = some none)
    (zb_any : PySem.W.nsIn K mainGlobals "any" = some none)
    (zb_bool : PySem.W.nsIn K mainGlobals "bool" = some none)
    (zb_dict : PySem.W.nsIn K mainGlobals "dict" = some none)
    (zb_divmod : PySem.W.nsIn K mainGlobals "divmod" = some none)
    (zb_enumerate : PySem.W.nsIn K mainGlobals "enumerate" = some none)
    (zb_int : PySem.W.nsIn K mainGlobals "int" = some none)
    (zb_isinstance : PySem.W.nsIn K mainGlobals "isinstance" = some none)
    (zb_len : PySem.W.nsIn K mainGlobals "len" = some none)
    (zb_list : PySem.W.nsIn K mainGlobals "list" = some none)
    (zb_max : PySem.W.nsIn K mainGlobals "max" = some none)
    (zb_min : PySem.W.nsIn K mainGlobals "min" = some none)
    (zb_range : PySem.W.nsIn K mainGlobals "range" = some none)
    (zb_sorted : PySem.W.nsIn K mainGlobals "sorted" = some none)
    (zb_str : PySem.W.nsIn K mainGlobals "str" = some none)
    (zb_sum : PySem.W.nsIn K mainGlobals "sum" = some none)
    (zb_tuple : PySem.W.nsIn K mainGlobals "tuple" = some none)
    {t_FARTHEST : Tok} (zc_FARTHEST : PySem.W.nsIn K mainGlobals "FARTHEST" = some (some (.int (9999) t_FARTHEST)))
    {t_MOST_PLACES : Tok} (zc_MOST_PLACES : PySem.W.nsIn K mainGlobals "MOST_PLACES" = some (some (.int (9) t_MOST_PLACES)))
    {ct_NOUGHT_0 : Tok}
    {ct_NOUGHT_1 : Tok}
    {ca_NOUGHT : Addr} {cd_NOUGHT : Option Addr} {cn_NOUGHT : Nat} {cs_NOUGHT : Array (Option Value)} (lc_NOUGHT : K.lookup ca_NOUGHT = some ⟨.type "tuple", cd_NOUGHT, .seq ([.int 0 ct_NOUGHT_0, .int 1 ct_NOUGHT_1] : List Value).toArray cn_NOUGHT, cs_NOUGHT⟩)
    (zc_NOUGHT : PySem.W.nsIn K mainGlobals "NOUGHT" = some (some (.ref ca_NOUGHT)))
    (zg_gcd : PySem.W.nsIn K mainGlobals "gcd" = some (some (.builtin "math.gcd"))) :
    ∃ fd : FuncData, (∀ (s : Shared) (v : Value), BindsTo s fd ⟨[v], []⟩ [("script", v)]) ∧ ∀ base : Heap, K.In base → base.Ns mainGlobals mg → FnOk l.prog w K mg base (L2.CX l.prog w) 14 fa fd ["script"] (spLaw K) := by
  have e := hfa.symm.trans (PySem.W.mg_of X G a37)
  cases e
  have F0 := fun_mk (st := topS 3) l0 c0 k0
  have B0 := F0.binds (ps := ["value"]) fun _ _ _ _ _ _ us hl => match us, hl with | [_], _ => rfl
  have F1 := fun_mk (st := topS 4) l1 c1 k1
  have B1 := F1.binds (ps := ["value", "low", "high"]) fun _ _ _ _ _ _ us hl => match us, hl with | [_, _, _], _ => rfl
  have F2 := fun_mk (st := topS 5) l2 c2 k2
  have B2 := F2.binds (ps := ["value", "many"]) fun _ _ _ _ _ _ us hl => match us, hl with | [_, _], _ => rfl
  have F3 := fun_mk (st := topS 6) l3 c3 k3
  have B3 := F3.binds (ps := ["value", "fewest", "most", "is_right"]) fun _ _ _ _ _ _ us hl => match us, hl with | [_, _, _, _], _ => rfl
  have F4 := fun_mk (st := topS 7) l4 c4 k4
  have B4 := F4.binds (ps := ["number", "under"]) fun _ _ _ _ _ _ us hl => match us, hl with | [_, _], _ => rfl
  have F5 := fun_mk (st := topS 8) l5 c5 k5
  have B5 := F5.binds (ps := ["value"]) fun _ _ _ _ _ _ us hl => match us, hl with | [_], _ => rfl
  have F6 := fun_mk (st := topS 9) l6 c6 k6
  have B6 := F6.binds (ps := ["number"]) fun _ _ _ _ _ _ us hl => match us, hl with | [_], _ => rfl
  have F7 := fun_mk (st := topS 10) l7 c7 k7
  have B7 := F7.binds (ps := ["one", "two"]) fun _ _ _ _ _ _ us hl => match us, hl with | [_, _], _ => rfl
  have F8 := fun_mk (st := topS 11) l8 c8 k8
  have B8 := F8.binds (ps := ["one", "two"]) fun _ _ _ _ _ _ us hl => match us, hl with | [_, _], _ => rfl
  have F9 := fun_mk (st := topS 12) l9 c9 k9
  have B9 := F9.binds (ps := ["one", "two"]) fun _ _ _ _ _ _ us hl => match us, hl with | [_, _], _ => rfl
  have F10 := fun_mk (st := topS 13) l10 c10 k10
  have B10 := F10.binds (ps := ["some"]) fun _ _ _ _ _ _ us hl => match us, hl with | [_], _ => rfl
  have F11 := fun_mk (st := topS 22) l11 c11 k11
  have B11 := F11.binds (ps := ["value"]) fun _ _ _ _ _ _ us hl => match us, hl with | [_], _ => rfl
  have F12 := fun_mk (st := topS 23) l12 c12 k12
  have B12 := F12.binds (ps := ["value", "low", "high"]) fun _ _ _ _ _ _ us hl => match us, hl with | [_, _, _], _ => rfl
  have F13 := fun_mk (st := topS 25) l13 c13 k13
  have B13 := F13.binds (ps := ["floors", "poured"]) fun _ _ _ _ _ _ us hl => match us, hl with | [_, _], _ => rfl
  have F14 := fun_mk (st := topS 26) l14 c14 k14
  have B14 := F14.binds (ps := ["floor", "level"]) fun _ _ _ _ _ _ us hl => match us, hl with | [_, _], _ => rfl
  have F15 := fun_mk (st := topS 27) l15 c15 k15
  have B15 := F15.binds (ps := ["floors", "poured"]) fun _ _ _ _ _ _ us hl => match us, hl with | [_, _], _ => rfl
  have F16 := fun_mk (st := topS 28) l16 c16 k16
  have B16 := F16.binds (ps := ["floors", "level"]) fun _ _ _ _ _ _ us hl => match us, hl with | [_, _], _ => rfl
  have F17 := fun_mk (st := topS 30) l17 c17 k17
  have B17 := F17.binds (ps := ["value"]) fun _ _ _ _ _ _ us hl => match us, hl with | [_], _ => rfl
  have F18 := fun_mk (st := topS 31) l18 c18 k18
  have B18 := F18.binds (ps := ["value"]) fun _ _ _ _ _ _ us hl => match us, hl with | [_], _ => rfl
  have F19 := fun_mk (st := topS 32) l19 c19 k19
  have B19 := F19.binds (ps := ["floors", "number"]) fun _ _ _ _ _ _ us hl => match us, hl with | [_, _], _ => rfl
  have F20 := fun_mk (st := topS 33) l20 c20 k20
  have B20 := F20.binds (ps := ["floors", "number"]) fun _ _ _ _ _ _ us hl => match us, hl with | [_, _], _ => rfl
  have F21 := fun_mk (st := topS 34) l21 c21 k21
  have B21 := F21.binds (ps := ["floors", "number"]) fun _ _ _ _ _ _ us hl => match us, hl with | [_, _], _ => rfl
  have F22 := fun_mk (st := topS 35) l22 c22 k22
  have B22 := F22.binds (ps := ["floors", "fraction"]) fun _ _ _ _ _ _ us hl => match us, hl with | [_, _], _ => rfl
  have F23 := fun_mk (st := topS 37) l23 c23 k23
  have B23 := F23.binds (ps := ["script", "lap"]) fun _ _ _ _ _ _ us hl => match us, hl with | [_, _], _ => rfl
  have F24 := fun_mk (st := topS 38) l24 c24 k24
  have B24 := F24.binds (ps := ["well", "many"]) fun _ _ _ _ _ _ us hl => match us, hl with | [_, _], _ => rfl
  have F25 := fun_mk (st := topS 39) l25 c25 k25
  have B25 := F25.binds (ps := ["well", "things"]) fun _ _ _ _ _ _ us hl => match us, hl with | [_, _], _ => rfl
  have F26 := fun_mk (st := topS 40) l26 c26 k26
  have B26 := F26.binds (ps := ["told", "due"]) fun _ _ _ _ _ _ us hl => match us, hl with | [_, _], _ => rfl
  have F27 := fun_mk (st := topS 41) l27 c27 k27
  have B27 := F27.binds (ps := ["one", "two"]) fun _ _ _ _ _ _ us hl => match us, hl with | [_, _], _ => rfl
  have F28 := fun_mk (st := topS 42) l28 c28 k28
  have B28 := F28.binds (ps := ["one", "two"]) fun _ _ _ _ _ _ us hl => match us, hl with | [_, _], _ => rfl
  have F29 := fun_mk (st := topS 43) l29 c29 k29
  have B29 := F29.binds (ps := ["one", "two"]) fun _ _ _ _ _ _ us hl => match us, hl with | [_, _], _ => rfl
  have F30 := fun_mk (st := topS 44) l30 c30 k30
  have B30 := F30.binds (ps := ["one", "two"]) fun _ _ _ _ _ _ us hl => match us, hl with | [_, _], _ => rfl
  have F31 := fun_mk (st := topS 45) l31 c31 k31
  have B31 := F31.binds (ps := ["some"]) fun _ _ _ _ _ _ us hl => match us, hl with | [_], _ => rfl
  have F32 := fun_mk (st := topS 46) l32 c32 k32
  have B32 := F32.binds (ps := ["well", "most"]) fun _ _ _ _ _ _ us hl => match us, hl with | [_, _], _ => rfl
  have F33 := fun_mk (st := topS 47) l33 c33 k33
  have B33 := F33.binds (ps := ["floors", "poured"]) fun _ _ _ _ _ _ us hl => match us, hl with | [_, _], _ => rfl
  have F34 := fun_mk (st := topS 48) l34 c34 k34
  have B34 := F34.binds (ps := ["floors", "height"]) fun _ _ _ _ _ _ us hl => match us, hl with | [_, _], _ => rfl
  have F35 := fun_mk (st := topS 49) l35 c35 k35
  have B35 := F35.binds (ps := ["well", "floors", "poured", "height"]) fun _ _ _ _ _ _ us hl => match us, hl with | [_, _, _, _], _ => rfl
  have F36 := fun_mk (st := topS 50) l36 c36 k36
  have B36 := F36.binds (ps := ["well"]) fun _ _ _ _ _ _ us hl => match us, hl with | [_], _ => rfl
  have F37 := fun_mk (st := topS 51) l37 c37 k37
  have B37 := F37.binds (ps := ["script"]) fun _ _ _ _ _ _ us hl => match us, hl with | [_], _ => rfl
  have T : Txt K mg f17 := ⟨⟨_, _, PySem.W.mg_of X G a0, F0, B0⟩, ⟨_, _, PySem.W.mg_of X G a1, F1, B1⟩, ⟨_, _, PySem.W.mg_of X G a2, F2, B2⟩, ⟨_, _, PySem.W.mg_of X G a3, F3, B3⟩, ⟨_, _, PySem.W.mg_of X G a4, F4, B4⟩, ⟨_, _, PySem.W.mg_of X G a5, F5, B5⟩, ⟨_, _, PySem.W.mg_of X G a6, F6, B6⟩, ⟨_, _, PySem.W.mg_of X G a7, F7, B7⟩, ⟨_, _, PySem.W.mg_of X G a8, F8, B8⟩, ⟨_, _, PySem.W.mg_of X G a9, F9, B9⟩, ⟨_, _, PySem.W.mg_of X G a10, F10, B10⟩, ⟨_, _, PySem.W.mg_of X G a11, F11, B11⟩, ⟨_, _, PySem.W.mg_of X G a12, F12, B12⟩, ⟨_, _, PySem.W.mg_of X G a13, F13, B13⟩, ⟨_, _, PySem.W.mg_of X G a14, F14, B14⟩, ⟨_, _, PySem.W.mg_of X G a15, F15, B15⟩, ⟨_, _, PySem.W.mg_of X G a16, F16, B16⟩, ⟨_, _, PySem.W.mg_of X G a17, F17, B17⟩, ⟨_, _, PySem.W.mg_of X G a18, F18, B18⟩, ⟨_, _, PySem.W.mg_of X G a19, F19, B19⟩, ⟨_, _, PySem.W.mg_of X G a20, F20, B20⟩, ⟨_, _, PySem.W.mg_of X G a21, F21, B21⟩, ⟨_, _, PySem.W.mg_of X G a22, F22, B22⟩, ⟨_, _, PySem.W.mg_of X G a23, F23, B23⟩, ⟨_, _, PySem.W.mg_of X G a24, F24, B24⟩, ⟨_, _, PySem.W.mg_of X G a25, F25, B25⟩, ⟨_, _, PySem.W.mg_of X G a26, F26, B26⟩, ⟨_, _, PySem.W.mg_of X G a27, F27, B27⟩, ⟨_, _, PySem.W.mg_of X G a28, F28, B28⟩, ⟨_, _, PySem.W.mg_of X G a29, F29, B29⟩, ⟨_, _, PySem.W.mg_of X G a30, F30, B30⟩, ⟨_, _, PySem.W.mg_of X G a31, F31, B31⟩, ⟨_, _, PySem.W.mg_of X G a32, F32, B32⟩, ⟨_, _, PySem.W.mg_of X G a33, F33, B33⟩, ⟨_, _, PySem.W.mg_of X G a34, F34, B34⟩, ⟨_, _, PySem.W.mg_of X G a35, F35, B35⟩, ⟨_, _, PySem.W.mg_of X G a36, F36, B36⟩, ⟨_, _, PySem.W.mg_of X G a37, F37, B37⟩, PySem.W.mg_none_of X G zb_abs, PySem.W.mg_none_of X G zb_all, PySem.W.mg_none_of X G zb_any, PySem.W.mg_none_of X G zb_bool, PySem.W.mg_none_of X G zb_dict, PySem.W.mg_none_of X G zb_divmod, PySem.W.mg_none_of X G zb_enumerate, PySem.W.mg_none_of X G zb_int, PySem.W.mg_none_of X G zb_isinstance, PySem.W.mg_none_of X G zb_len, PySem.W.mg_none_of X G zb_list, PySem.W.mg_none_of X G zb_max, PySem.W.mg_none_of X G zb_min, PySem.W.mg_none_of X G zb_range, PySem.W.mg_none_of X G zb_sorted, PySem.W.mg_none_of X G zb_str, PySem.W.mg_none_of X G zb_sum, PySem.W.mg_none_of X G zb_tuple, ⟨_, PySem.W.mg_of X G zc_FARTHEST⟩, ⟨_, PySem.W.mg_of X G zc_MOST_PLACES⟩, ⟨_, PySem.W.mg_of X G zc_NOUGHT, fun F => (rep_tup lc_NOUGHT (Nat.le_of_ble_eq_true rfl) (vals_cons (rel_int _ _) (vals_cons (rel_int _ _) .nil)) (fun F => (.cons (.int _) (.cons (.int _) .nil))) F)⟩, PySem.W.mg_of X G zg_gcd, PySem.W.mg_of X G a17, a17⟩
  refine ⟨PySem.W.fnOf "law" "law" (defArgs (topS 51)) (defBody (topS 51)) (defScope (topS 51)) .none kV37 dc37 pm37 an37 cd37 ct37, fun s v => .of_eq rfl, fun base _ _ => ?_⟩
  obtain ⟨f, fd, h1, _, h2, h3, _⟩ := (ok_every (P := l.prog) (w := w) (base := base) T).ex
  have h4 := (PySem.W.mg_of X G a37).symm.trans h1
  cases h4
  have h5 := fun_same F37 h2
  cases h5
  exact h3.imp (law_imp pl)
end FL
/-! TL: plain functions read as terms of a small monad of what has to hold (no slots, draws as "for any"), with the proof that the plain function does what the term says. -/
namespace FL
open PySem PySem.Spec L2
abbrev XP := Str → Option (Str × D) → Prop
def TM (α : Type) := (α → Prop) → XP → Prop
section
variable {α β γ : Type}
def tp (a : α) : TM α := fun P _ => P a
def tb (m : TM α) (f : α → TM β) : TM β := fun P E => m (fun a => f a P E) E
def tO (o : Option α) : TM α := fun P _ => ∃ a, o = some a ∧ P a
def tA (p : Prop) (m : TM α) : TM α := fun P E => p ∧ m P E
def tBad : TM α := fun _ _ => False
def tNX (m : TM α) : TM α := fun P _ => m P fun _ _ => False
def tX (c : Str) (p : Option (Str × D)) : TM α := fun _ E => E c p
theorem tb_tp (a : α) (f : α → TM β) : tb (tp a) f = f a := rfl
theorem tb_tb (m : TM α) (f : α → TM β) (g : β → TM γ) : tb (tb m f) g = tb m fun a => tb (f a) g := rfl
theorem tO_some (a : α) : tO (some a) = tp a := by
  funext P E
  exact propext ⟨fun ⟨_, e, h⟩ => by cases e; exact h, fun h => ⟨a, rfl, h⟩⟩
theorem tA_true (m : TM α) {p : Prop} (h : p) : tA p m = m := by
  funext P E
  exact propext ⟨fun h => h.2, fun g => ⟨h, g⟩⟩
theorem tb_tA {p : Prop} (m : TM α) (f : α → TM β) : tb (tA p m) f = tA p (tb m f) := rfl
theorem tNX_tp (a : α) : tNX (tp a) = tp a := rfl
/-! ### expressions -/
def t2 (op : D → D → Option D) (a b : TM D) : TM D := tb a fun d => tb b fun e => tO (op d e)
def t1 (op : D → Option D) (a : TM D) : TM D := tb a fun d => tO (op d)
def tAnd (a b : TM D) : TM D := tb a fun d => tb (tO (truB d)) fun k => if k then b else tp d
def tOr (a b : TM D) : TM D := tb a fun d => tb (tO (truB d)) fun k => if k then tp d else b
def tNot (a : TM D) : TM D := tb a fun d => tb (tO (truB d)) fun k => tp (.bl (!k))
def tIf (c : TM Bool) (a b : TM α) : TM α := tb c fun k => if k then a else b
def unBl : D → Option Bool
  | .bl b => some b
  | _ => none
def unInt : D → Option Int
  | .int b => some b
  | _ => none
def tChain (o o' : D → D → Option D) (a b c : TM D) : TM D := tb a fun d => tb b fun e => tb (tO (o d e)) fun z => tb (tO (unBl z)) fun k => if k then tb c fun g => tO (o' e g) else tp (.bl false)
def tCons (a : TM D) (r : TM (List D)) : TM (List D) := tb a fun d => tb r fun ds => tp (d :: ds)
def tTup (m : TM (List D)) : TM D := tb m fun ds => tA (ds.length ≤ most) (tp (.tup ds))
def tLst (m : TM (List D)) : TM (List D) := tb m fun ds => tA (ds.length ≤ most) (tp ds)
def tFz (m : TM (List D)) : TM D := tb m fun ds => tp (.lst ds)
def tBf (o : List D → Option α) (m : TM (List D)) : TM α := tb m fun ds => tO (o ds)
def tInt (m : TM D) : TM (Option Int) := tb m fun d => tb (tO (unInt d)) fun i => tp (some i)
def tCut (a : TM D) (lo hi : TM (Option Int)) : TM D := tb a fun d => tb lo fun l => tb hi fun h => tO (cutD d l h)
def tRow (m : TM D) : TM (List D) := tb m fun d => tO (rowD d)
def tMT (m : TM D) : TM Bool := tb m fun d => tO (unBl d)
def tTru (m : TM D) : TM Bool := tb m fun d => tO (truB d)
def ttAnd (a b : TM Bool) : TM Bool := tb a fun k => if k then b else tp false
def ttOr (a b : TM Bool) : TM Bool := tb a fun k => if k then tp true else b
def ttNot (a : TM Bool) : TM Bool := tb a fun k => tp (!k)
def tIsT (ns : List String) (m : TM D) : TM D := tb m fun d => tO (isTB ns d)
def tUnL (m : TM D) : TM (List D) := tb m fun d => tO (unL d)
def tLend (ok : α → Bool) (m : TM α) : TM α := tb m fun a => tA (ok a = true) (tp a)
/-! comprehensions, loops -/
def compL {σ : Type} (tg : D → TM σ) (tt : σ → TM Bool) (te : σ → TM D) : List D → TM (List D)
  | [] => tp []
  | d :: ds => tb (tg d) fun u => tb (tt u) fun k => if k then tb (te u) fun y => tb (compL tg tt te ds) fun l => tp (y :: l) else compL tg tt te ds
def compT {σ : Type} (it : TM (List D)) (tg : D → TM σ) (tt : σ → TM Bool) (te : σ → TM D) : TM (List D) := tb it fun ds => tA (ds.length ≤ most) (tNX (compL tg tt te ds))
def forL {σ : Type} (body : D → σ → TM σ) : List D → σ → TM σ
  | [], s => tp s
  | d :: ds, s => tb (body d s) fun s' => forL body ds s'
def forT {σ : Type} (it : TM (List D)) (s : σ) (body : D → σ → TM σ) : TM σ := tb it fun ds => tA (ds.length ≤ most) (forL body ds s)
inductive Lx (σ : Type) where | go (s : σ) | br (s : σ) | rt (d : D)
def forXL {σ : Type} (body : D → σ → TM (Lx σ)) : List D → σ → TM (Lx σ)
  | [], s => tp (.go s)
  | d :: ds, s => tb (body d s) fun o => match o with
    | .go s' => forXL body ds s'
    | .br s' => tp (.go s')
    | .rt v => tp (.rt v)
def forX {σ : Type} (it : TM (List D)) (s : σ) (body : D → σ → TM (Lx σ)) : TM (Lx σ) := tb it fun ds => tA (ds.length ≤ most) (forXL body ds s)
def tFin {σ τ : Type} (o : Lx σ) (fr : D → TM τ) (fs : σ → TM τ) : TM τ := match o with
  | .go s => fs s
  | .br s => fs s
  | .rt d => fr d
def whileT {σ : Type} (tc : σ → TM Bool) (body : σ → TM σ) : Nat → σ → TM σ
  | 0, _ => tBad
  | n + 1, s => tb (tc s) fun k => if k then tb (body s) fun s' => whileT tc body n s' else tp s
def whileX {σ : Type} (tc : σ → TM Bool) (body : σ → TM (Lx σ)) : Nat → σ → TM (Lx σ)
  | 0, _ => tBad
  | n + 1, s => tb (tc s) fun k => if k then tb (body s) fun o => (match o with
    | .go s' => whileX tc body n s'
    | .br s' => tp (.go s')
    | .rt v => tp (.rt v)) else tp (.go s)
def tApp (xs : List D) (m : TM D) : TM (List D) := tb m fun d => tA (xs.length < most) (tp (xs ++ [d]))
def tExt (xs : List D) (m : TM D) : TM (List D) := tb m fun d => tO (extC d xs)
def tSub (xs : List D) (ix : TM D) (d : D) : TM (List D) := tb ix fun i => tO (setIx d i xs)
def unTup (n : Nat) : D → Option (List D)
  | .tup ds => if ds.length = n then some ds else none
  | _ => none
end
def u0 (t : TM D) : List D → TM D := fun ds => match ds with | [] => t | _ => tBad
def u1 (t : D → TM D) : List D → TM D := fun ds => match ds with | [a] => t a | _ => tBad
def u2 (t : D → D → TM D) : List D → TM D := fun ds => match ds with | [a, b] => t a b | _ => tBad
def u3 (t : D → D → D → TM D) : List D → TM D := fun ds => match ds with | [a, b, c] => t a b c | _ => tBad
def u4 (t : D → D → D → D → TM D) : List D → TM D := fun ds => match ds with | [a, b, c, d] => t a b c d | _ => tBad
def u5 (t : D → D → D → D → D → TM D) : List D → TM D := fun ds => match ds with | [a, b, c, d, e] => t a b c d e | _ => tBad
def u6 (t : D → D → D → D → D → D → TM D) : List D → TM D := fun ds => match ds with | [a, b, c, d, e, g] => t a b c d e g | _ => tBad
def u7 (t : D → D → D → D → D → D → D → TM D) : List D → TM D := fun ds => match ds with | [a, b, c, d, e, g, h] => t a b c d e g h | _ => tBad
/-! ### what is shown of a plain function -/
def Wx {α : Type} (m : M α) (r : List Ent) (Q : α → List Ent → Prop) (E : Str → Option (Str × D) → List Ent → Prop) : Prop := match m r with
  | .ok a r' => Q a r'
  | .exc c p r' => E c p r'
  | .bad => False
def WxF (F : List Ent → R D) (es : List Ent) (Q : D → List Ent → Prop) (E : Str → Option (Str × D) → List Ent → Prop) : Prop := match F es with
  | .ok a r' => Q a r'
  | .exc c p r' => E c p r'
  | .bad => False
section
variable {α β : Type} {r : List Ent} {Q Q' : α → List Ent → Prop} {E E' : Str → Option (Str × D) → List Ent → Prop}
theorem Wx.imp {m : M α} (h : Wx m r Q E) (q : ∀ a r', Q a r' → Q' a r') (e : ∀ c p r', E c p r' → E' c p r') : Wx m r Q' E' := by
  unfold Wx at h ⊢
  cases k : m r with
  | ok a r' => rw [k] at h; exact q _ _ h
  | exc c p r' => rw [k] at h; exact e _ _ _ h
  | bad => rw [k] at h; exact h
theorem wx_B {m : M β} {f : β → M α} (h : Wx m r (fun b r' => Wx (f b) r' Q E) E) : Wx (mB m f) r Q E := by
  unfold Wx mB at *
  cases e : m r with
  | ok a r' => rw [e] at h; exact h
  | exc c p r' => rw [e] at h; exact h
  | bad => rw [e] at h; exact h.elim
theorem wx_of {m : M α} {a : α} {r' : List Ent} (e : m r = .ok a r') (q : Q a r') : Wx m r Q E := by unfold Wx; rw [e]; exact q
end
def Wel (k : Nat) (ds : List D) : Prop := ∃ a s c : Int, ds = [.int a, .int s, .int c] ∧ 0 ≤ a ∧ 0 ≤ s ∧ s < 2147483648 ∧ 0 ≤ c ∧ c ≤ k
theorem Wel.up {j k : Nat} {ds : List D} : Wel j ds → j ≤ k → Wel k ds := fun ⟨a, s, c, h1, h2⟩ h => ⟨a, s, c, h1, by omega⟩
def w0 : List D := [.int 0, .int 0, .int 0]
theorem wel0 : Wel 0 w0 := ⟨0, 0, 0, rfl, by omega, by omega, by omega, by omega, by omega⟩
def big : Nat := 2 ^ 2000
structure J where
  v : List (Option D)
  a : List Ent
def oe : Option D → Ent
  | none => .no
  | some d => .val d
abbrev Pat := J → List D → List Ent
def Wk (f g : Pat) : Prop := ∃ h : J → List D → J, ∀ js ds, f js ds = g (h js ds) ds
def wk (h : J → List D → J) {f g : Pat} (e : ∀ js ds, f js ds = g (h js ds) ds) : Wk f g := ⟨h, e⟩
def anyP : Pat := fun js _ => js.a
theorem wk_any (f : Pat) : Wk f anyP := ⟨fun js ds => ⟨[], f js ds⟩, fun _ _ => rfl⟩
theorem wk_refl (f : Pat) : Wk f f := ⟨fun js _ => js, fun _ _ => rfl⟩
def Got (f : Pat) (k : Nat) (r : List Ent) : Prop := ∃ js ds, Wel k ds ∧ r = f js ds
theorem Got.up {f : Pat} {j k : Nat} {r : List Ent} : Got f j r → j ≤ k → Got f k r := fun ⟨js, ds, w, e⟩ h => ⟨js, ds, w.up h, e⟩
theorem Got.wk {f g : Pat} {k : Nat} {r : List Ent} : Got f k r → Wk f g → Got g k r := fun ⟨js, ds, w, e⟩ ⟨h, q⟩ => ⟨h js ds, ds, w, e.trans (q js ds)⟩
def SimM {α : Type} (c : Nat) (f g : Pat) (m : M α) (t : TM α) : Prop := ∀ (k : Nat) (r : List Ent) (P : α → Prop) (E : XP), Got f k r → k + c ≤ big → t P E →
  Wx m r (fun a r => Got f (k + c) r ∧ P a) fun x p r => Got g (k + c) r ∧ E x p
def SimB {τ : Type} (c : Nat) (f g : Pat) (m : M Fl) (t : TM τ) (fl : τ → Fl → Prop) (pat : τ → Pat) : Prop := ∀ (k : Nat) (r : List Ent) (P : τ → Prop) (E : XP), Got f k r → k + c ≤ big → t P E →
  Wx m r (fun x r => ∃ a, fl a x ∧ Got (pat a) (k + c) r ∧ P a) fun x p r => Got g (k + c) r ∧ E x p
/-- targets -/
def SimG {σ : Type} (c : Nat) (f g : Pat) (m : M Unit) (t : TM σ) (f2 : σ → Pat) : Prop := ∀ (k : Nat) (r : List Ent) (P : σ → Prop) (E : XP), Got f k r → k + c ≤ big → t P E →
  Wx m r (fun _ r => ∃ s, Got (f2 s) (k + c) r ∧ P s) fun x p r => Got g (k + c) r ∧ E x p
def SimF0 (F : List Ent → R D) (t : List D → TM D) : Prop := ∀ (ds : List D) (P : D → Prop) (E : XP), t ds P E → WxF F (valsOf ds) (fun d _ => P d) fun x p _ => E x p
def WOut (k : Nat) (o : List Ent) : Prop := ∃ w, Wel k w ∧ o = [.cel .io w]
def SimFW (c i : Nat) (F : List Ent → R D) (t : List D → TM D) : Prop := ∀ (k : Nat) (w pre post : List D) (P : D → Prop) (E : XP), pre.length = i → Wel k w → k + c ≤ big → t (pre ++ post) P E →
  WxF F (ioArgs pre w post) (fun d o => WOut (k + c) o ∧ P d) fun x p o => WOut (k + c) o ∧ E x p
section
variable {α β : Type} {f g : Pat} {c c1 c2 c3 : Nat}
theorem SimM.up {m : M α} {t : TM α} (h : SimM c1 f g m t) (e : c1 ≤ c) : SimM c f g m t := fun k r P E q l p =>
  (h k r P E q (by omega) p).imp (fun _ _ ⟨a, b⟩ => ⟨a.up (by omega), b⟩) fun _ _ _ ⟨a, b⟩ => ⟨a.up (by omega), b⟩
theorem sm_bind {m : M α} {t : TM α} {n : α → M β} {u : α → TM β} (h1 : SimM c1 f g m t) (h2 : ∀ a, SimM c2 f g (n a) (u a)) (hc : c1 + c2 ≤ c) : SimM c f g (mB m n) (tb t u) := fun k r P E q l p =>
  wx_B ((h1 k r _ E q (by omega) p).imp (fun a r1 ⟨q1, p1⟩ => (h2 a (k + c1) r1 P E q1 (by omega) p1).imp (fun _ _ ⟨a, b⟩ => ⟨a.up (by omega), b⟩) fun _ _ _ ⟨a, b⟩ => ⟨a.up (by omega), b⟩) fun _ _ _ ⟨a, b⟩ => ⟨a.up (by omega), b⟩)
theorem sm_P {a : α} : SimM c f g (mP a) (tp a) := fun k r P E q l p => ⟨q.up (by omega), p⟩
theorem sm_O {o : Option α} : SimM c f g (mO o) (tO o) := fun k r P E q l ⟨a, e, p⟩ => by subst e; exact ⟨q.up (by omega), p⟩
theorem sm_bad {m : M α} : SimM c f g m tBad := fun _ _ _ _ _ _ p => p.elim
theorem sm_ite {k : Bool} {a b : M α} {ta tb' : TM α} (h1 : SimM c f g a ta) (h2 : SimM c f g b tb') : SimM c f g (if k then a else b) (if k then ta else tb') := by
  cases k with
  | true => exact h1
  | false => exact h2
theorem sm_var {i : Nat} {d : D} (h : ∀ js ds, (f js ds)[i]? = some (.val d)) : SimM c f g (xVar i) (tp d) := fun k r P E ⟨js, ds, w, e⟩ l p => by
  subst e
  unfold Wx xVar
  rw [h]
  exact ⟨⟨js, ds, w.up (by omega), rfl⟩, p⟩
theorem sm_C {d : D} : SimM c f g (xC d) (tp d) := sm_P
variable {a b e : M D} {ta te : TM D} {tb' : TM D} {m : M (List D)} {tm : TM (List D)}
theorem sm_2 {op : D → D → Option D} (h1 : SimM c1 f g a ta) (h2 : SimM c2 f g b tb') (hc : c1 + c2 ≤ c) : SimM c f g (x2 op a b) (t2 op ta tb') :=
  sm_bind h1 (fun _ => sm_bind (c2 := 0) h2 (fun _ => sm_O) (Nat.le_refl _)) hc
theorem sm_1 {op : D → Option D} (h1 : SimM c f g a ta) : SimM c f g (x1 op a) (t1 op ta) := sm_bind (c2 := 0) h1 (fun _ => sm_O) (Nat.le_refl _)
theorem sm_and (h1 : SimM c1 f g a ta) (h2 : SimM c2 f g b tb') (hc : c1 + c2 ≤ c) : SimM c f g (xAnd a b) (tAnd ta tb') :=
  sm_bind h1 (fun _ => sm_bind (c1 := 0) sm_O (fun _ => sm_ite h2 sm_P) (by omega)) hc
theorem sm_or (h1 : SimM c1 f g a ta) (h2 : SimM c2 f g b tb') (hc : c1 + c2 ≤ c) : SimM c f g (xOr a b) (tOr ta tb') :=
  sm_bind h1 (fun _ => sm_bind (c1 := 0) sm_O (fun _ => sm_ite sm_P h2) (by omega)) hc
theorem sm_not (h1 : SimM c f g a ta) : SimM c f g (xNot a) (tNot ta) := sm_bind (c2 := 0) h1 (fun _ => sm_bind (c1 := 0) (c2 := 0) sm_O (fun _ => sm_P) (by omega)) (by omega)
theorem sm_if {k : M Bool} {tk : TM Bool} (h0 : SimM c1 f g k tk) (h1 : SimM c2 f g a ta) (h2 : SimM c3 f g b tb') (hc : c1 + (c2 + c3) ≤ c) : SimM c f g (xIf k a b) (tIf tk ta tb') :=
  sm_bind h0 (fun _ => sm_ite (h1.up (Nat.le_add_right _ _)) (h2.up (Nat.le_add_left _ _))) hc
theorem sm_chain {o o' : D → D → Option D} (h1 : SimM c1 f g a ta) (h2 : SimM c2 f g b tb') (h3 : SimM c3 f g e te) (hc : c1 + c2 + c3 ≤ c) : SimM c f g (xChain o o' a b e) (tChain o o' ta tb' te) :=
  sm_bind h1 (fun d => sm_bind (c := c2 + c3) h2 (fun d2 => sm_bind (c1 := 0) sm_O (fun z => by
    cases z with
    | bl k =>
      show SimM c3 f g _ (tb (tO (some k)) _)
      rw [tO_some]
      exact sm_ite (sm_bind (c2 := 0) h3 (fun _ => sm_O) (Nat.le_refl _)) sm_P
    | _ => exact fun _ _ _ _ _ _ p => by obtain ⟨_, e, _⟩ := p; cases e) (by omega)) (Nat.le_refl _)) (by omega)
theorem sm_nil : SimM c f g (mP ([] : List D)) (tp []) := sm_P
theorem sm_cons (h1 : SimM c1 f g a ta) (h2 : SimM c2 f g m tm) (hc : c1 + c2 ≤ c) : SimM c f g (dCons a m) (tCons ta tm) :=
  sm_bind h1 (fun _ => sm_bind (c2 := 0) h2 (fun _ => sm_P) (Nat.le_refl _)) hc
theorem sm_guard {p : Prop} [Decidable p] {x : α} : SimM c f g (if decide p = true then mP x else fun _ => .bad) (tA p (tp x)) := fun k r P E q l ⟨h, p⟩ => by
  rw [if_pos (decide_eq_true h)]
  exact sm_P k r P E q l p
theorem sm_tup (h : SimM c f g m tm) : SimM c f g (xTup m) (tTup tm) := sm_bind (c2 := 0) h (fun _ => sm_guard) (Nat.le_refl _)
theorem sm_lst (h : SimM c f g m tm) : SimM c f g (lLst m) (tLst tm) := sm_bind (c2 := 0) h (fun _ => sm_guard) (Nat.le_refl _)
theorem sm_fz (h : SimM c f g m tm) : SimM c f g (xFz m) (tFz tm) := sm_bind (c2 := 0) h (fun _ => sm_P) (Nat.le_refl _)
theorem sm_B {o : List D → Option D} (h : SimM c f g m tm) : SimM c f g (xB o m) (tBf o tm) := sm_bind (c2 := 0) h (fun _ => sm_O) (Nat.le_refl _)
theorem sm_lB {o : List D → Option (List D)} (h : SimM c f g m tm) : SimM c f g (lB o m) (tBf o tm) := sm_bind (c2 := 0) h (fun _ => sm_O) (Nat.le_refl _)
theorem sm_iOf {o : List D → Option (List D)} (h : SimM c f g m tm) : SimM c f g (iOf o m) (tBf o tm) := sm_bind (c2 := 0) h (fun _ => sm_O) (Nat.le_refl _)
theorem sm_row (h : SimM c f g a ta) : SimM c f g (iRow a) (tRow ta) := sm_bind (c2 := 0) h (fun _ => sm_O) (Nat.le_refl _)
theorem sm_oint (h : SimM c f g a ta) : SimM c f g (oInt a) (tInt ta) := sm_bind (c2 := 0) h (fun d => by
  cases d with
  | int i => exact (show SimM 0 f g (mP (some i)) (tb (tO (some i)) _) by rw [tO_some]; exact sm_P)
  | _ => exact fun _ _ _ _ _ _ p => by obtain ⟨_, e, _⟩ := p; cases e) (Nat.le_refl _)
theorem sm_none : SimM c f g (mP (none : Option Int)) (tp none) := sm_P
theorem sm_cut {lo hi : M (Option Int)} {tl th : TM (Option Int)} (h1 : SimM c1 f g a ta) (h2 : SimM c2 f g lo tl) (h3 : SimM c3 f g hi th) (hc : c1 + c2 + c3 ≤ c) : SimM c f g (xCut a lo hi) (tCut ta tl th) :=
  sm_bind h1 (fun _ => sm_bind (c := c2 + c3) h2 (fun _ => sm_bind (c2 := 0) h3 (fun _ => sm_O) (Nat.le_refl _)) (Nat.le_refl _)) (by omega)
theorem sm_isT {ns : List String} (h : SimM c f g a ta) : SimM c f g (xIsT ns a) (tIsT ns ta) := sm_bind (c2 := 0) h (fun _ => sm_O) (Nat.le_refl _)
theorem sm_mT (h : SimM c f g a ta) : SimM c f g (mT a) (tMT ta) := sm_bind (c2 := 0) h (fun d => by
  cases d with
  | bl i => exact (show SimM 0 f g (mP i) (tO (some i)) by rw [tO_some]; exact sm_P)
  | _ => exact fun _ _ _ _ _ _ p => by obtain ⟨_, e, _⟩ := p; cases e) (Nat.le_refl _)
theorem sm_tru (h : SimM c f g a ta) : SimM c f g (mTru a) (tTru ta) := sm_bind (c2 := 0) h (fun _ => sm_O) (Nat.le_refl _)
theorem sm_tAnd {p q : M Bool} {tp' tq : TM Bool} (h1 : SimM c1 f g p tp') (h2 : SimM c2 f g q tq) (hc : c1 + c2 ≤ c) : SimM c f g (tAndM p q) (ttAnd tp' tq) := sm_bind h1 (fun _ => sm_ite h2 sm_P) hc
theorem sm_tOr {p q : M Bool} {tp' tq : TM Bool} (h1 : SimM c1 f g p tp') (h2 : SimM c2 f g q tq) (hc : c1 + c2 ≤ c) : SimM c f g (tOrM p q) (ttOr tp' tq) := sm_bind h1 (fun _ => sm_ite sm_P h2) hc
theorem sm_tNot {p : M Bool} {tp' : TM Bool} (h1 : SimM c f g p tp') : SimM c f g (tNotM p) (ttNot tp') := sm_bind (c2 := 0) h1 (fun _ => sm_P) (Nat.le_refl _)
/-! calls -/
theorem sm_call0 {np : Nat} {F : List Ent → R D} {tF : List D → TM D} (hx : Wk f g) (hF : SimF0 F tF) (h : SimM c f g m tm) : SimM c f g (callD np F m) (tb tm fun ds => tA (ds.length = np) (tF ds)) :=
  sm_bind (c2 := 0) h (fun ds k r P E q l ⟨h1, p⟩ => by
    have := hF ds P E p
    unfold WxF at this
    unfold Wx
    simp only [h1, if_true]
    cases e : F (valsOf ds) with
    | ok d o => rw [e] at this; exact ⟨q, this⟩
    | exc x p o => rw [e] at this; exact ⟨q.wk hx, this⟩
    | bad => rw [e] at this; exact this) (Nat.le_refl _)
theorem sm_callD {np : Nat} {F : List Ent → R D} {tF : List D → TM D} (hx : Wk f g) (hF : SimF0 F tF) (hn : ∀ ds P E, tF ds P E → ds.length = np) (h : SimM c f g m tm) : SimM c f g (callD np F m) (tb tm tF) := fun k r P E q l p =>
  sm_call0 (np := np) hx hF h k r P E q l (by
    have : (fun (ds : List D) => tA (ds.length = np) (tF ds)) = tF := by
      funext ds P E
      exact propext ⟨fun h => h.2, fun h => ⟨hn ds P E h, h⟩⟩
    rw [this]; exact p)
theorem sm_callL {np : Nat} {F : List Ent → R D} {tF : List D → TM D} (hx : Wk f g) (hF : SimF0 F tF) (hn : ∀ ds P E, tF ds P E → ds.length = np) (h : SimM c f g m tm) : SimM c f g (callL np F m) (tUnL (tb tm tF)) := fun k r P E q l p => by
  refine sm_bind (c2 := 0) (t := tm) (u := fun ds => tUnL (tF ds)) h (fun ds k r P E q l p => ?_) (Nat.le_refl _) k r P E q l p
  have h1 := hn ds _ _ p
  have := hF ds _ E p
  unfold WxF at this
  unfold Wx
  simp only [h1, if_true]
  cases e : F (valsOf ds) with
  | ok d o =>
    rw [e] at this
    obtain ⟨es, e2, p2⟩ := this
    cases d <;> try (cases e2; done)
    cases e2
    exact ⟨q, p2⟩
  | exc x p o => rw [e] at this; exact ⟨q.wk hx, this⟩
  | bad => rw [e] at this; exact this
theorem sm_callKw {np n : Nat} {ix : List Nat} {F : List Ent → R D} {tF : List D → TM D} (hx : Wk f g) (hF : SimF0 F tF) (hn : ∀ ds P E, tF ds P E → ds.length = np) (h : SimM c f g m tm) : SimM c f g (callKw np n ix F m) (tb tm fun ds => tA (ds.length = n) (tF (ordL ix ds))) :=
  sm_bind (c2 := 0) h (fun ds k r P E q l ⟨h1, p⟩ => by
    have h2 := hn _ _ _ p
    have := hF _ P E p
    unfold WxF at this
    unfold Wx
    simp only [h1, h2, and_self, decide_true, if_true]
    cases e : F (valsOf (ordL ix ds)) with
    | ok d o => rw [e] at this; exact ⟨q, this⟩
    | exc x p o => rw [e] at this; exact ⟨q.wk hx, this⟩
    | bad => rw [e] at this; exact this) (Nat.le_refl _)
theorem sm_callP {np i : Nat} {v : Str} {F : List Ent → R D} {tF : List D → TM D} (hv : ∀ js ds, (f js ds)[i]? = some (.val (.dfn v))) (hx : Wk f g) (hF : SimF0 F tF) (hn : ∀ ds P E, tF ds P E → ds.length = np) (h : SimM c f g m tm) : SimM c f g (callP i v np F m) (tb tm tF) := fun k r P E q l p => by
  obtain ⟨js, ds, w, rfl⟩ := q
  refine wx_B (wx_of (a := ()) (r' := f js ds) (by unfold isDef; rw [hv]; simp) ?_)
  exact sm_callD hx hF hn h k _ P E ⟨js, ds, w, rfl⟩ l p
/-! calls with the well -/
inductive AL : Nat → List Arg → List D → Prop
theorem allV_of : ∀ post : List D, allV (post.map Arg.val) = some post
  | [] => rfl
  | d :: ds => by simp only [List.map_cons, allV, allV_of ds, Option.map_some]
theorem splitA_of : ∀ (pre post : List D) (j : Nat), splitA (pre.map Arg.val ++ .late j :: post.map Arg.val) = some (pre, j, post)
  | [], post, j => by simp [splitA, allV_of]
  | d :: ds, post, j => by simp [splitA, splitA_of ds post j]
/-- arguments behind, ahead of the well -/
def SimA (c : Nat) (f g : Pat) (m : M (List Arg)) (t : TM (List D)) : Prop := SimM c f g m (tb t fun ds => tp (ds.map Arg.val))
def SimAj (c i j : Nat) (f g : Pat) (m : M (List Arg)) (t : TM (List D)) : Prop := SimM c f g m (tb t fun ds => tA (i ≤ ds.length) (tp ((ds.take i).map Arg.val ++ .late j :: (ds.drop i).map Arg.val)))
theorem sa'_nil : SimA c f g (mP []) (tp []) := sm_P
theorem sa'_val {m : M (List Arg)} {tm : TM (List D)} (h1 : SimM c1 f g a ta) (h2 : SimA c2 f g m tm) (hc : c1 + c2 ≤ c) : SimA c f g (aVal a m) (tCons ta tm) :=
  sm_bind (u := fun d => tb tm fun ds => tp (Arg.val d :: ds.map Arg.val)) h1 (fun d => sm_bind (c2 := 0) (t := tb tm fun ds => tp (ds.map Arg.val)) (u := fun as => tp (Arg.val d :: as)) h2 (fun _ => sm_P) (Nat.le_refl _)) hc
theorem sj_late {j : Nat} {m : M (List Arg)} {tm : TM (List D)} (hj : ∀ js ds, ∃ k xs, (f js ds)[j]? = some (.cel k xs)) (h2 : SimA c f g m tm) : SimAj c 0 j f g (aLate j m) tm := fun k r P E q l p => by
  obtain ⟨js, ds, w, rfl⟩ := q
  obtain ⟨kk, xs, e⟩ := hj js ds
  refine wx_B (wx_of (a := ()) (r' := f js ds) (by unfold hasS; rw [e]) ?_)
  refine sm_bind (c2 := 0) (t := tb tm fun ds => tp (ds.map Arg.val)) (u := fun as => tp (Arg.late j :: as)) h2 (fun _ => sm_P) (Nat.le_refl _) k _ P E ⟨js, ds, w, rfl⟩ l ?_
  have : (fun ds : List D => tA (0 ≤ ds.length) (tp ((ds.take 0).map Arg.val ++ .late j :: (ds.drop 0).map Arg.val))) = fun ds => tp (Arg.late j :: ds.map Arg.val) := by
    funext ds
    rw [tA_true _ (Nat.zero_le _)]
    rfl
  rw [this] at p
  exact p
theorem sj_val {i j : Nat} {m : M (List Arg)} {tm : TM (List D)} (h1 : SimM c1 f g a ta) (h2 : SimAj c2 i j f g m tm) (hc : c1 + c2 ≤ c) : SimAj c (i + 1) j f g (aVal a m) (tCons ta tm) := fun k r P E q l p => by
  refine sm_bind (c := c) (u := fun d => tb (tb tm fun ds => tA (i ≤ ds.length) (tp ((ds.take i).map Arg.val ++ .late j :: (ds.drop i).map Arg.val))) fun as => tp (Arg.val d :: as)) h1 (fun d => sm_bind (c2 := 0) h2 (fun _ => sm_P) (Nat.le_refl _)) hc k r P E q l ?_
  refine Eq.mp ?_ p
  show tb (tb ta fun d => tb tm fun ds => tp (d :: ds)) _ P E = _
  unfold tb tp tA
  simp only [List.length_cons, Nat.add_le_add_iff_right, List.take_succ_cons, List.map_cons, List.cons_append, List.drop_succ_cons]
theorem sm_callI {np i j : Nat} {T : List Nat} {F : List Ent → R D} {tF : List D → TM D} {m : M (List Arg)} {tm : TM (List D)} (hx : Wk f g) (hw : ∀ js ds, ∃ kk, (f js ds)[j]? = some (.cel kk ds) ∧ ∀ ds', (f js ds).set j (.cel kk ds') = f js ds') (hT : j ∈ T) (hF : SimFW c2 i F tF) (hn : ∀ ds P E, tF ds P E → ds.length + 1 = np) (hi : i < np)
    (h : SimAj c1 i j f g m tm) (hc : c1 + c2 ≤ c) : SimM c f g (callI np i T F m) (tb tm tF) := fun k r P E q l p => by
  have pe : (fun ds => tF ds P E) = fun ds : List D => i ≤ ds.length ∧ ∃ s, splitA ((ds.take i).map Arg.val ++ Arg.late j :: (ds.drop i).map Arg.val) = some s ∧ s.1.length = i ∧ s.2.1 = j ∧ ((ds.take i).map Arg.val ++ Arg.late j :: (ds.drop i).map Arg.val).length = np ∧ tF (s.1 ++ s.2.2) P E := by
    funext ds
    refine propext ⟨fun z => ?_, fun ⟨h1, s, e, h2, h3, h4, z⟩ => ?_⟩
    · have h1 := hn ds P E z
      refine ⟨by omega, _, splitA_of _ _ _, ?_, rfl, ?_, ?_⟩
      · rw [List.length_take]; omega
      · simp only [List.length_append, List.length_map, List.length_take, List.length_cons, List.length_drop]; omega
      · rw [List.take_append_drop]; exact z
    · rw [splitA_of] at e
      cases e
      rw [List.take_append_drop] at z
      exact z
  refine wx_B ((h k r (fun as => ∃ s, splitA as = some s ∧ s.1.length = i ∧ s.2.1 = j ∧ as.length = np ∧ tF (s.1 ++ s.2.2) P E) E q (by omega) ?_).imp (fun as r1 ⟨q1, s, e1, e2, e3, e4, p1⟩ => ?_) fun _ _ _ ⟨a, b⟩ => ⟨a.up (by omega), b⟩)
  · exact Eq.mp (congrArg (fun z => tm z E) pe) p
  · obtain ⟨pre, j', post⟩ := s
    cases e3
    obtain ⟨js, ds, w, rfl⟩ := q1
    obtain ⟨kk, e5, e6⟩ := hw js ds
    have := hF (k + c1) ds pre post P E e2 w (by omega) p1
    unfold WxF at this
    unfold Wx
    simp only [e1, e4, e2, hT, and_self, decide_true, if_true, e5]
    cases e : F (ioArgs pre ds post) with
    | ok d o =>
      rw [e] at this
      obtain ⟨⟨w', h1, rfl⟩, p2⟩ := this
      exact ⟨⟨js, w', h1.up (by omega), e6 w'⟩, p2⟩
    | exc x pl o =>
      rw [e] at this
      obtain ⟨⟨w', h1, rfl⟩, p2⟩ := this
      exact ⟨Got.wk ⟨js, w', h1.up (by omega), e6 w'⟩ hx, p2⟩
    | bad => rw [e] at this; exact this.elim
theorem sm_callIL {np i j : Nat} {T : List Nat} {F : List Ent → R D} {tF : List D → TM D} {m : M (List Arg)} {tm : TM (List D)} (hx : Wk f g) (hw : ∀ js ds, ∃ kk, (f js ds)[j]? = some (.cel kk ds) ∧ ∀ ds', (f js ds).set j (.cel kk ds') = f js ds') (hT : j ∈ T) (hF : SimFW c2 i F tF) (hn : ∀ ds P E, tF ds P E → ds.length + 1 = np) (hi : i < np)
    (h : SimAj c1 i j f g m tm) (hc : c1 + c2 ≤ c) : SimM c f g (callIL np i T F m) (tUnL (tb tm tF)) := fun k r P E q l p => by
  have pe : (fun ds => tF ds (fun d => ∃ a, unL d = some a ∧ P a) E) = fun ds : List D => i ≤ ds.length ∧ ∃ s, splitA ((ds.take i).map Arg.val ++ Arg.late j :: (ds.drop i).map Arg.val) = some s ∧ s.1.length = i ∧ s.2.1 = j ∧ ((ds.take i).map Arg.val ++ Arg.late j :: (ds.drop i).map Arg.val).length = np ∧ tF (s.1 ++ s.2.2) (fun d => ∃ a, unL d = some a ∧ P a) E := by
    funext ds
    refine propext ⟨fun z => ?_, fun ⟨h1, s, e, h2, h3, h4, z⟩ => ?_⟩
    · have h1 := hn ds _ E z
      refine ⟨by omega, _, splitA_of _ _ _, ?_, rfl, ?_, ?_⟩
      · rw [List.length_take]; omega
      · simp only [List.length_append, List.length_map, List.length_take, List.length_cons, List.length_drop]; omega
      · rw [List.take_append_drop]; exact z
    · rw [splitA_of] at e
      cases e
      rw [List.take_append_drop] at z
      exact z
  refine wx_B ((h k r (fun as => ∃ s, splitA as = some s ∧ s.1.length = i ∧ s.2.1 = j ∧ as.length = np ∧ tF (s.1 ++ s.2.2) (fun d => ∃ a, unL d = some a ∧ P a) E) E q (by omega) ?_).imp (fun as r1 ⟨q1, s, e1, e2, e3, e4, p1⟩ => ?_) fun _ _ _ ⟨a, b⟩ => ⟨a.up (by omega), b⟩)
  · exact Eq.mp (congrArg (fun z => tm z E) pe) p
  · obtain ⟨pre, j', post⟩ := s
    cases e3
    obtain ⟨js, ds, w, rfl⟩ := q1
    obtain ⟨kk, e5, e6⟩ := hw js ds
    have := hF (k + c1) ds pre post _ E e2 w (by omega) p1
    unfold WxF at this
    unfold Wx
    simp only [e1, e4, e2, hT, and_self, decide_true, if_true, e5]
    cases e : F (ioArgs pre ds post) with
    | ok d o =>
      rw [e] at this
      obtain ⟨⟨w', h1, rfl⟩, b, e7, p2⟩ := this
      simp only [e7]
      exact ⟨⟨js, w', h1.up (by omega), e6 w'⟩, p2⟩
    | exc x pl o =>
      rw [e] at this
      obtain ⟨⟨w', h1, rfl⟩, p2⟩ := this
      exact ⟨Got.wk ⟨js, w', h1.up (by omega), e6 w'⟩ hx, p2⟩
    | bad => rw [e] at this; exact this.elim
end
end FL
namespace FL
open PySem PySem.Spec L2
section
variable {α β τ σ : Type} {f g f2 : Pat} {c c1 c2 c3 : Nat} {fl : τ → Fl → Prop} {pat : τ → Pat} {t : TM τ}
/-! ### a list of one's own -/
theorem got_set {f f2 : Pat} {j k : Nat} {e : List Ent} (h : ∀ js ds, f2 js ds = (f js ds)) : Got f k e → Got f2 k e := fun ⟨js, ds, w, q⟩ => ⟨js, ds, w, q.trans (h js ds).symm⟩
theorem sm_lend {S : List Nat} {j : Nat} {ok : α → Bool} {m : M α} {tm : TM α} {xs : List D} {kk : CK} (f2 : Pat) (h0 : ∀ js ds, (f js ds)[j]? = some (.cel kk xs)) (h1 : ∀ js ds, (f js ds).set j (.val (.lst xs)) = f2 js ds) (h2 : ∀ js ds, (f2 js ds).set j (.cel kk xs) = f js ds) (h3 : ∀ js ds, okT S (f2 js ds) = true)
    (h : SimM c f2 anyP m (tNX tm)) : SimM c f g (lend S j ok m) (tNX (tLend ok tm)) := fun k r P E q l p => by
  obtain ⟨js, ds, w, rfl⟩ := q
  have := h k (f2 js ds) (fun a => ok a = true ∧ P a) (fun _ _ => False) ⟨js, ds, w, rfl⟩ l p
  unfold Wx at this ⊢
  unfold lend
  rw [h0]
  simp only [h1]
  cases e : m (f2 js ds) with
  | ok a o =>
    rw [e] at this
    obtain ⟨⟨js', ds', w', e2⟩, h4, h5⟩ := this
    rw [e2]
    simp only [h4, h3, Bool.and_self, if_true]
    exact ⟨⟨js', ds', w', h2 js' ds'⟩, h5⟩
  | exc c p o => rw [e] at this; exact this.2.elim
  | bad => rw [e] at this; exact this.elim
theorem sm_nx0 {m : M α} {tm : TM α} (h : SimM c f g m tm) : SimM c f anyP m (tNX tm) := fun k r P E q l p => (h k r P (fun _ _ => False) q l p).imp (fun _ _ z => z) fun _ _ _ z => z.2.elim
/-! ### blocks -/
theorem sb_any {m : M Fl} {t : TM τ} (h : ∀ k r P E, Got f k r → k + c ≤ big → t P E → Wx m r (fun x r => ∃ a, fl a x ∧ Got (pat a) (k + c) r ∧ P a) fun x p r => Got g (k + c) r ∧ E x p) : SimB c f g m t fl pat := h
theorem SimB.up {m : M Fl} (h : SimB c1 f g m t fl pat) (e : c1 ≤ c) : SimB c f g m t fl pat := fun k r P E q l p =>
  (h k r P E q (by omega) p).imp (fun _ _ ⟨a, b, q, z⟩ => ⟨a, b, q.up (by omega), z⟩) fun _ _ _ ⟨a, b⟩ => ⟨a.up (by omega), b⟩
theorem sb_last {m : M Fl} (h : SimB c f g (sSeq m (mP .nx)) t fl pat) : SimB c f g m t fl pat := fun k r P E q l p => by
  have := h k r P E q l p
  unfold Wx sSeq mB mP at this
  unfold Wx
  cases e : m r with
  | ok a o => rw [e] at this; cases a <;> exact this
  | exc x p o => rw [e] at this; exact this
  | bad => rw [e] at this; exact this
theorem sb_assoc {a b m : M Fl} (h : SimB c f g (sSeq a (sSeq b m)) t fl pat) : SimB c f g (sSeq (sSeq a b) m) t fl pat := fun k r P E q l p => by
  have := h k r P E q l p
  unfold Wx sSeq mB mP at this ⊢
  cases e : a r with
  | ok x o =>
    rw [e] at this
    cases x <;> try exact this
  | exc x p o => rw [e] at this; exact this
  | bad => rw [e] at this; exact this
theorem sb_nxseq {m : M Fl} (h : SimB c f g m t fl pat) : SimB c f g (sSeq (mP .nx) m) t fl pat := h
theorem sb_exit {a m : M Fl} (h : SimB c f g a t fl pat) (hx : ∀ s x, fl s x → x ≠ .nx) : SimB c f g (sSeq a m) t fl pat := fun k r P E q l p =>
  wx_B ((h k r P E q l p).imp (fun x r1 ⟨s, h1, h2, h3⟩ => by
    cases x with
    | nx => exact (hx s _ h1 rfl).elim
    | _ => exact ⟨s, h1, h2, h3⟩) fun _ _ _ z => z)
/-- a step that falls through, and what follows -/
def Nx (x : Fl) : Prop := x = .nx
theorem sb_seq {a m : M Fl} {ta : TM σ} {p1 : σ → Pat} {u : σ → TM τ} (h1 : SimB c1 f g a ta (fun _ => Nx) p1) (h2 : ∀ s, SimB c2 (p1 s) g m (u s) fl pat) (hc : c1 + c2 ≤ c) : SimB c f g (sSeq a m) (tb ta u) fl pat := fun k r P E q l p =>
  wx_B ((h1 k r _ E q (by omega) p).imp (fun x r1 ⟨s, e, q1, p1⟩ => by
    cases e
    exact (h2 s (k + c1) r1 P E q1 (by omega) p1).imp (fun _ _ ⟨a, b, q, z⟩ => ⟨a, b, q.up (by omega), z⟩) fun _ _ _ ⟨a, b⟩ => ⟨a.up (by omega), b⟩) fun _ _ _ ⟨a, b⟩ => ⟨a.up (by omega), b⟩)
theorem sb_nx (s : τ) (h : fl s .nx) (w : Wk f (pat s)) : SimB c f g (mP .nx) (tp s) fl pat := fun k r P E q l p => ⟨s, h, (q.up (by omega)).wk w, p⟩
theorem sb_br (s : τ) (h : fl s .br) (w : Wk f (pat s)) : SimB c f g (mP .br) (tp s) fl pat := fun k r P E q l p => ⟨s, h, (q.up (by omega)).wk w, p⟩
theorem sb_co (s : τ) (h : fl s .co) (w : Wk f (pat s)) : SimB c f g (mP .co) (tp s) fl pat := fun k r P E q l p => ⟨s, h, (q.up (by omega)).wk w, p⟩
theorem sb_rt0 (s : τ) (d : D) (h : fl s (.rt d)) (w : Wk f (pat s)) : SimB c f g (mP (.rt d)) (tp s) fl pat := fun k r P E q l p => ⟨s, h, (q.up (by omega)).wk w, p⟩
theorem sb_bad {m : M Fl} : SimB c f g m tBad fl pat := fun _ _ _ _ _ _ p => p.elim
/-- return, of a def's block -/
def flR (d : D) (x : Fl) : Prop := x = .rt d ∨ (x = .nx ∧ d = .non) 
def flR' (d : D) (x : Fl) : Prop := x = .rt d
def flL (d : D) (x : Fl) : Prop := ∃ ds, d = .lst ds ∧ x = .rtL ds
theorem sb_ret {m : M D} {tm : TM D} (hw : Wk f g) (h : SimM c f g m tm) : SimB c f g (sRet m) tm flR' (fun _ => g) := fun k r P E q l p =>
  wx_B ((h k r P E q l p).imp (fun a r1 ⟨q1, p1⟩ => ⟨a, rfl, q1.wk hw, p1⟩) fun _ _ _ z => z)
theorem sb_retX {m : M D} {tm : TM D} {τ : Type} {fl : Lx τ → Fl → Prop} {pat : Lx τ → Pat} (hf : ∀ d, fl (.rt d) (.rt d)) (hp : ∀ d, Wk f (pat (.rt d))) (h : SimM c f g m tm) : SimB c f g (sRet m) (tb tm fun d => tp (.rt d)) fl pat := fun k r P E q l p =>
  wx_B ((h k r _ E q l p).imp (fun a r1 ⟨q1, p1⟩ => ⟨.rt a, hf a, q1.wk (hp a), p1⟩) fun _ _ _ z => z)
theorem sb_retN (hw : Wk f g) : SimB c f g (mP (.rt .non)) (tp .non) flR' (fun _ => g) := fun k r P E q l p => ⟨.non, rfl, (q.up (by omega)).wk hw, p⟩
theorem sb_endN (hw : Wk f g) : SimB c f g (mP .nx) (tp .non) flR (fun _ => g) := fun k r P E q l p => ⟨.non, .inr ⟨rfl, rfl⟩, (q.up (by omega)).wk hw, p⟩
theorem sb_rr {m : M Fl} {t : TM D} {pat : D → Pat} (h : SimB c f g m t flR' pat) : SimB c f g m t flR pat := fun k r P E q l p => (h k r P E q l p).imp (fun _ _ ⟨a, b, z⟩ => ⟨a, .inl b, z⟩) fun _ _ _ z => z
theorem sb_retL {m : M (List D)} {tm : TM (List D)} (hw : Wk f g) (h : SimM c f g m tm) : SimB c f g (sRetL m) (tFz tm) flL (fun _ => g) := fun k r P E q l p =>
  wx_B ((h k r _ E q l p).imp (fun a r1 ⟨q1, p1⟩ => ⟨.lst a, ⟨a, rfl, rfl⟩, q1.wk hw, p1⟩) fun _ _ _ z => z)
theorem sb_retC {i : Nat} {xs : List D} (h0 : ∀ js ds, (f js ds)[i]? = some (.cel .own xs)) (hw : Wk f g) : SimB c f g (sRetC i) (tp (.lst xs)) flL (fun _ => g) := fun k r P E q l p => by
  obtain ⟨js, ds, w, rfl⟩ := q
  unfold Wx sRetC
  rw [h0]
  exact ⟨.lst xs, ⟨xs, rfl, rfl⟩, Got.wk ⟨js, ds, w.up (by omega), rfl⟩ hw, p⟩
theorem sb_expr {m : M D} {tm : TM D} {r : M Fl} {u : D → TM τ} (h : SimM c1 f g m tm) (h2 : ∀ d, SimB c2 f g r (u d) fl pat) (hc : c1 + c2 ≤ c) : SimB c f g (sSeq (sExpr m) r) (tb tm u) fl pat :=
  sb_seq (p1 := fun _ => f) (fun k r P E q l p => wx_B ((h k r P E q l p).imp (fun a r1 ⟨q1, p1⟩ => ⟨a, rfl, q1, p1⟩) fun _ _ _ z => z)) h2 hc
theorem sb_set {i : Nat} {m : M D} {tm : TM D} {r : M Fl} {u : D → TM τ} (f2 : D → Pat) (h : SimM c1 f g m tm) (h0 : ∀ js ds, i < (f js ds).length) (h1 : ∀ d js ds, (f js ds).set i (.val d) = f2 d js ds) (h2 : ∀ d, SimB c2 (f2 d) g r (u d) fl pat) (hc : c1 + c2 ≤ c) :
    SimB c f g (sSeq (sSet i m) r) (tb tm u) fl pat :=
  sb_seq (p1 := f2) (fun k r P E q l p => wx_B ((h k r P E q l p).imp (fun a r1 ⟨⟨js, ds, w, e⟩, p1⟩ => wx_B (wx_of (a := ()) (r' := r1.set i (.val a)) (by unfold setv; rw [e, if_pos (h0 js ds)]) ⟨a, rfl, ⟨js, ds, w, by rw [e, h1]⟩, p1⟩)) fun _ _ _ z => z)) h2 hc
theorem sb_setL {i : Nat} {m : M (List D)} {tm : TM (List D)} {r : M Fl} {u : List D → TM τ} (f2 : List D → Pat) (h : SimM c1 f g m tm) (h0 : ∀ js ds, i < (f js ds).length) (h1 : ∀ d js ds, (f js ds).set i (.cel .own d) = f2 d js ds) (h2 : ∀ d, SimB c2 (f2 d) g r (u d) fl pat) (hc : c1 + c2 ≤ c) :
    SimB c f g (sSeq (sSetL i m) r) (tb tm u) fl pat :=
  sb_seq (p1 := f2) (fun k r P E q l p => wx_B ((h k r P E q l p).imp (fun a r1 ⟨⟨js, ds, w, e⟩, p1⟩ => wx_B (wx_of (a := ()) (r' := r1.set i (.cel .own a)) (by unfold setc; rw [e, if_pos (h0 js ds)]) ⟨a, rfl, ⟨js, ds, w, by rw [e, h1]⟩, p1⟩)) fun _ _ _ z => z)) h2 hc
/-- a new well -/
def SimWell (F : List Ent → R D) (t : List D → TM Unit) : Prop := ∀ (ds : List D) (P : Unit → Prop) (E : XP), t ds P E → WxF F (valsOf ds) (fun d _ => (∃ es, d = .lst es ∧ Wel 0 es) ∧ P ()) fun _ _ _ => False
theorem sb_setW {i np : Nat} {F : List Ent → R D} {tF : List D → TM Unit} {m : M (List D)} {tm : TM (List D)} {r : M Fl} {u : Unit → TM τ} (f2 : Pat) (hF : SimWell F tF) (hn : ∀ ds P E, tF ds P E → ds.length = np) (h : SimM c1 f g m tm) (h0 : ∀ js ds, i < (f js ds).length) (h1 : ∀ d js ds, (f js ds).set i (.cel .own d) = f2 js d) (h2 : SimB c2 f2 g r (u ()) fl pat) (hc : c1 + c2 ≤ c) :
    SimB c f g (sSeq (sSetL i (callL np F m)) r) (tb (tb tm tF) u) fl pat :=
  sb_seq (p1 := fun _ => f2) (fun k r P E q l p => by
    refine wx_B (wx_B ((h k r _ E q l p).imp (fun ds r1 ⟨⟨js, w, hw, e⟩, p1⟩ => ?_) fun _ _ _ z => z))
    have l1 := hn ds _ _ p1
    have := hF ds P E p1
    unfold WxF at this
    unfold Wx
    simp only [l1, if_true]
    cases e2 : F (valsOf ds) with
    | ok d o =>
      rw [e2] at this
      obtain ⟨⟨es, rfl, hes⟩, p2⟩ := this
      refine wx_B (wx_of (a := ()) (r' := r1.set i (.cel .own es)) (by unfold setc; rw [e, if_pos (h0 js w)]) ⟨(), rfl, ⟨js, es, hes.up (Nat.zero_le _), by rw [e, h1]⟩, p2⟩)
    | exc x p o => rw [e2] at this; exact this.elim
    | bad => rw [e2] at this; exact this.elim) (fun _ => h2) hc
theorem sb_frz {j : Nat} {m : M Fl} {xs : List D} (f2 : Pat) (h0 : ∀ js ds, (f js ds)[j]? = some (.cel .own xs)) (h1 : ∀ js ds, (f js ds).set j (.val (.lst xs)) = f2 js ds) (h : SimB c f2 g m t fl pat) : SimB c f g (frz j m) t fl pat := fun k r P E q l p => by
  obtain ⟨js, ds, w, rfl⟩ := q
  have := h k (f2 js ds) P E ⟨js, ds, w, rfl⟩ l p
  unfold Wx at this ⊢
  unfold frz
  rw [h0]
  simp only [h1]
  exact this
theorem sb_app {j : Nat} {kk : CK} {xs : List D} {m : M D} {tm : TM D} {r : M Fl} {u : List D → TM τ} (f2 : List D → Pat) (h : SimM c1 f g m tm) (h0 : ∀ js ds, (f js ds)[j]? = some (.cel kk xs)) (h1 : ∀ d js ds, (f js ds).set j (.cel kk d) = f2 d js ds) (h2 : ∀ d, SimB c2 (f2 d) g r (u d) fl pat) (hc : c1 + c2 ≤ c) :
    SimB c f g (sSeq (sApp j m) r) (tb (tApp xs tm) u) fl pat :=
  sb_seq (p1 := f2) (fun k r P E q l p => by
    obtain ⟨js, ds, w, rfl⟩ := q
    refine wx_B (wx_of (a := ()) (r' := f js ds) (by unfold hasC; rw [h0]) ?_)
    refine wx_B ((h k _ _ E ⟨js, ds, w, rfl⟩ l p).imp (fun a r1 ⟨⟨js, ds, w, e⟩, p1, p2⟩ => ?_) fun _ _ _ z => z)
    refine wx_B (wx_of (a := ()) (r' := r1.set j (.cel kk (xs ++ [a]))) (by unfold updc appC; rw [e, h0]; simp only; rw [if_pos (decide_eq_true p1)]) ⟨_, rfl, ⟨js, ds, w, by rw [e, h1]⟩, p2⟩)) h2 hc
theorem sb_ext {j : Nat} {kk : CK} {xs : List D} {m : M D} {tm : TM D} {r : M Fl} {u : List D → TM τ} (f2 : List D → Pat) (h : SimM c1 f g m tm) (h0 : ∀ js ds, (f js ds)[j]? = some (.cel kk xs)) (h1 : ∀ d js ds, (f js ds).set j (.cel kk d) = f2 d js ds) (h2 : ∀ d, SimB c2 (f2 d) g r (u d) fl pat) (hc : c1 + c2 ≤ c) :
    SimB c f g (sSeq (sExt j m) r) (tb (tExt xs tm) u) fl pat :=
  sb_seq (p1 := f2) (fun k r P E q l p => by
    obtain ⟨js, ds, w, rfl⟩ := q
    refine wx_B (wx_of (a := ()) (r' := f js ds) (by unfold hasC; rw [h0]) ?_)
    refine wx_B ((h k _ _ E ⟨js, ds, w, rfl⟩ l p).imp (fun a r1 ⟨⟨js, ds, w, e⟩, es, p1, p2⟩ => ?_) fun _ _ _ z => z)
    refine wx_B (wx_of (a := ()) (r' := r1.set j (.cel kk es)) (by unfold updc; rw [e, h0]; simp only; rw [p1]) ⟨_, rfl, ⟨js, ds, w, by rw [e, h1]⟩, p2⟩)) h2 hc
/-! if -/
theorem sb_if {k : M Bool} {tk : TM Bool} {a b : M Fl} {ta tb' : TM τ} (h0 : SimM c1 f g k tk) (h1 : SimB c2 f g a ta fl pat) (h2 : SimB c3 f g b tb' fl pat) (hc : c1 + (c2 + c3) ≤ c) : SimB c f g (sIf k a b) (tIf tk ta tb') fl pat := fun kk r P E q l p =>
  wx_B ((h0 kk r _ E q (by omega) p).imp (fun x r1 ⟨q1, p1⟩ => by
    cases x with
    | true => exact (h1 (kk + c1) r1 P E q1 (by omega) p1).imp (fun _ _ ⟨a, b, q, z⟩ => ⟨a, b, q.up (by omega), z⟩) fun _ _ _ ⟨a, b⟩ => ⟨a.up (by omega), b⟩
    | false => exact (h2 (kk + c1) r1 P E q1 (by omega) p1).imp (fun _ _ ⟨a, b, q, z⟩ => ⟨a, b, q.up (by omega), z⟩) fun _ _ _ ⟨a, b⟩ => ⟨a.up (by omega), b⟩) fun _ _ _ ⟨a, b⟩ => ⟨a.up (by omega), b⟩)
theorem sb_ifseq {k : M Bool} {a b m : M Fl} (h : SimB c f g (sIf k (sSeq a m) (sSeq b m)) t fl pat) : SimB c f g (sSeq (sIf k a b) m) t fl pat := fun kk r P E q l p => by
  have := h kk r P E q l p
  unfold Wx sSeq sIf mB at this ⊢
  cases e : k r with
  | ok x o =>
    rw [e] at this
    cases x <;> exact this
  | exc x p o => rw [e] at this; exact this
  | bad => rw [e] at this; exact this
/-! targets -/
theorem sg_v {i : Nat} {d : D} (f2 : D → Pat) (h0 : ∀ js ds, i < (f js ds).length) (h1 : ∀ d js ds, (f js ds).set i (.val d) = f2 d js ds) : SimG c f g (setv i d) (tp d) f2 := fun k r P E ⟨js, ds, w, e⟩ l p =>
  wx_of (a := ()) (r' := r.set i (.val d)) (by unfold setv; rw [e, if_pos (h0 js ds)]) ⟨d, ⟨js, ds, w.up (by omega), by rw [e, h1]⟩, p⟩
theorem unTup_of {n : Nat} {d : D} {ds : List D} (e : unTup n d = some ds) : d = .tup ds ∧ ds.length = n := by
  cases d <;> simp [unTup] at e
  exact ⟨by rw [e.2], by rw [← e.2]; exact e.1⟩
theorem sg_tup' {n : Nat} {gs : List D → M Unit} {d : D} {tg : List D → TM σ} {f2 : σ → Pat} (h : ∀ ds, SimG c f g (gs ds) (tg ds) f2) : SimG c f g (gsTup n gs d) (tb (tO (unTup n d)) tg) f2 := fun k r P E q l ⟨ds, e, p⟩ => by
  obtain ⟨rfl, hl⟩ := unTup_of e
  have := h ds k r P E q l p
  unfold Wx at this ⊢
  unfold gsTup
  simp only [hl, if_true]
  exact this
def tgNil : List D → TM Unit := fun ds => match ds with
  | [] => tp ()
  | _ => tBad
def tgCons {σ ρ : Type} (a : D → TM σ) (b : σ → List D → TM ρ) : List D → TM (σ × ρ) := fun ds => match ds with
  | d :: r => tb (a d) fun s => tb (b s r) fun u => tp (s, u)
  | [] => tBad
theorem sg_nil' {ds : List D} : SimG c f g (gsNil ds) (tgNil ds) (fun _ => f) := fun k r P E q l p => by
  cases ds with
  | nil => exact ⟨(), q.up (by omega), p⟩
  | cons _ _ => exact p.elim
theorem sg_cons' {ρ : Type} {a : D → M Unit} {b : List D → M Unit} {ta : D → TM σ} {tb' : σ → List D → TM ρ} {f1 : σ → Pat} {f2 : σ → ρ → Pat} {ds : List D} (h1 : ∀ d, SimG c1 f g (a d) (ta d) f1) (h2 : ∀ s ds, SimG c2 (f1 s) g (b ds) (tb' s ds) (f2 s)) (hc : c1 + c2 ≤ c) : SimG c f g (gsCons a b ds) (tgCons ta tb' ds) (fun p => f2 p.1 p.2) := fun k r P E q l p => by
  cases ds with
  | nil => exact p.elim
  | cons d ds =>
    refine wx_B ((h1 d k r _ E q (by omega) p).imp (fun _ r1 ⟨s, q1, p1⟩ => ?_) fun _ _ _ ⟨a, b⟩ => ⟨a.up (by omega), b⟩)
    exact (h2 s ds (k + c1) r1 _ E q1 (by omega) p1).imp (fun _ _ ⟨u, q2, p2⟩ => ⟨(s, u), q2.up (by omega), p2⟩) fun _ _ _ ⟨a, b⟩ => ⟨a.up (by omega), b⟩
theorem sg_s {j : Nat} {kk : CK} {xs : List D} {ix : M D} {ti : TM D} {d : D} (f2 : List D → Pat) (hi : SimM c f g ix ti) (h0 : ∀ js ds, (f js ds)[j]? = some (.cel kk xs)) (h1 : ∀ d js ds, (f js ds).set j (.cel kk d) = f2 d js ds) : SimG c f g (gsSub j ix d) (tSub xs ti d) f2 := fun k r P E q l p => by
  obtain ⟨js, ds, w, rfl⟩ := q
  refine wx_B (wx_of (a := ()) (r' := f js ds) (by unfold hasC; rw [h0]) ?_)
  refine wx_B ((hi k _ _ E ⟨js, ds, w, rfl⟩ l p).imp (fun a r1 ⟨⟨js, ds, w, e⟩, es, p1, p2⟩ => ?_) fun _ _ _ z => z)
  refine wx_B (wx_of (a := ()) (r' := r1.set j (.cel kk es)) (by unfold updc; rw [e, h0]; simp only; rw [p1]) ⟨_, ⟨js, ds, w, by rw [e, h1]⟩, p2⟩)
theorem sb_asg {m : M D} {tm : TM D} {gt : D → M Unit} {tg : D → TM σ} {r : M Fl} {u : σ → TM τ} {f2 : σ → Pat} (h : SimM c1 f g m tm) (hg : ∀ d, SimG c2 f g (gt d) (tg d) f2) (h2 : ∀ s, SimB c3 (f2 s) g r (u s) fl pat) (hc : c1 + c2 + c3 ≤ c) : SimB c f g (sSeq (sAsg m gt) r) (tb (tb tm tg) u) fl pat :=
  sb_seq (p1 := f2) (c1 := c1 + c2) (fun k r P E q l p => wx_B ((h k r _ E q (by omega) p).imp (fun a r1 ⟨q1, p1⟩ => wx_B ((hg a (k + c1) r1 P E q1 (by omega) p1).imp (fun _ _ ⟨s, q2, p2⟩ => ⟨s, rfl, q2.up (by omega), p2⟩) fun _ _ _ ⟨a, b⟩ => ⟨a.up (by omega), b⟩)) fun _ _ _ ⟨a, b⟩ => ⟨a.up (by omega), b⟩)) h2 hc
/-! several at once -/
def tP2 (tm : TM (List D)) (u : D → D → TM τ) : TM τ := tb tm fun l => match l with
  | [d, e] => u d e
  | _ => tBad
def tP3 (tm : TM (List D)) (u : D → D → D → TM τ) : TM τ := tb tm fun l => match l with
  | [d, e, h] => u d e h
  | _ => tBad
theorem set_run {i : Nat} {d : D} {r : List Ent} {Q : Unit → List Ent → Prop} {E : Str → Option (Str × D) → List Ent → Prop} (h : i < r.length) (q : Q () (r.set i (.val d))) : Wx (setv i d) r Q E := wx_of (a := ()) (r' := r.set i (.val d)) (by unfold setv; rw [if_pos h]) q
theorem setc_run {i : Nat} {d : List D} {k : CK} {r : List Ent} {Q : Unit → List Ent → Prop} {E : Str → Option (Str × D) → List Ent → Prop} (h : i < r.length) (q : Q () (r.set i (.cel k d))) : Wx (setc i k d) r Q E := wx_of (a := ()) (r' := r.set i (.cel k d)) (by unfold setc; rw [if_pos h]) q
theorem seq_nx {m : M Fl} {a : M Fl} {r : List Ent} {Q : Fl → List Ent → Prop} {E : Str → Option (Str × D) → List Ent → Prop} (h : Wx a r (fun x r => x = .nx ∧ Wx m r Q E) E) : Wx (sSeq a m) r Q E := wx_B (h.imp (fun x r ⟨e, z⟩ => by subst e; exact z) fun _ _ _ z => z)
theorem sb_par2 {i j : Nat} {m : M (List D)} {tm : TM (List D)} {r : M Fl} {u : D → D → TM τ} (f2 : D → D → Pat) (h : SimM c1 f g m tm) (h0 : ∀ js ds, i < (f js ds).length ∧ j < (f js ds).length) (h1 : ∀ d e js ds, ((f js ds).set i (.val d)).set j (.val e) = f2 d e js ds) (h2 : ∀ d e, SimB c2 (f2 d e) g r (u d e) fl pat) (hc : c1 + c2 ≤ c) :
    SimB c f g (sSeq (sPar2 i j m) r) (tP2 tm u) fl pat := fun k r P E q l p => by
  refine seq_nx (wx_B ((h k r _ E q (by omega) p).imp (fun a r1 ⟨⟨js, ds, w, e⟩, p1⟩ => ?_) fun _ _ _ ⟨a, b⟩ => ⟨a.up (by omega), b⟩))
  match a, p1 with
  | [d, e'], p1 =>
    subst e
    refine wx_B (set_run (h0 js ds).1 (wx_B (set_run (by rw [List.length_set]; exact (h0 js ds).2) ⟨rfl, ?_⟩)))
    rw [h1]
    exact (h2 d e' (k + c1) _ P E ⟨js, ds, w, rfl⟩ (by omega) p1).imp (fun _ _ ⟨a, b, q, z⟩ => ⟨a, b, q.up (by omega), z⟩) fun _ _ _ ⟨a, b⟩ => ⟨a.up (by omega), b⟩
theorem sb_par3 {i j n : Nat} {m : M (List D)} {tm : TM (List D)} {r : M Fl} {u : D → D → D → TM τ} (f2 : D → D → D → Pat) (h : SimM c1 f g m tm) (h0 : ∀ js ds, i < (f js ds).length ∧ j < (f js ds).length ∧ n < (f js ds).length) (h1 : ∀ d e x js ds, (((f js ds).set i (.val d)).set j (.val e)).set n (.val x) = f2 d e x js ds) (h2 : ∀ d e x, SimB c2 (f2 d e x) g r (u d e x) fl pat) (hc : c1 + c2 ≤ c) :
    SimB c f g (sSeq (sPar3 i j n m) r) (tP3 tm u) fl pat := fun k r P E q l p => by
  refine seq_nx (wx_B ((h k r _ E q (by omega) p).imp (fun a r1 ⟨⟨js, ds, w, e⟩, p1⟩ => ?_) fun _ _ _ ⟨a, b⟩ => ⟨a.up (by omega), b⟩))
  match a, p1 with
  | [d, e', x], p1 =>
    subst e
    refine wx_B (set_run (h0 js ds).1 (wx_B (set_run (by rw [List.length_set]; exact (h0 js ds).2.1) (wx_B (set_run (by rw [List.length_set, List.length_set]; exact (h0 js ds).2.2) ⟨rfl, ?_⟩)))))
    rw [h1]
    exact (h2 d e' x (k + c1) _ P E ⟨js, ds, w, rfl⟩ (by omega) p1).imp (fun _ _ ⟨a, b, q, z⟩ => ⟨a, b, q.up (by omega), z⟩) fun _ _ _ ⟨a, b⟩ => ⟨a.up (by omega), b⟩
/-- one after the other, lists that are new beside values -/
def SimP (c : Nat) (f g : Pat) (m : M (List PIt)) (t : TM σ) (is : σ → List PIt) : Prop := ∀ (k : Nat) (r : List Ent) (P : σ → Prop) (E : XP), Got f k r → k + c ≤ big → t P E →
  Wx m r (fun l r => ∃ s, l = is s ∧ Got f (k + c) r ∧ P s) fun x p r => Got g (k + c) r ∧ E x p
theorem sp'_nil : SimP c f g (mP []) (tp ()) (fun _ => []) := fun k r P E q l p => ⟨(), rfl, q.up (by omega), p⟩
theorem sp'_val {a : M D} {ta : TM D} {m : M (List PIt)} {tm : TM σ} {is : σ → List PIt} (h1 : SimM c1 f g a ta) (h2 : SimP c2 f g m tm is) (hc : c1 + c2 ≤ c) : SimP c f g (pVal a m) (tb ta fun d => tb tm fun s => tp (d, s)) (fun p => .val p.1 :: is p.2) := fun k r P E q l p =>
  wx_B ((h1 k r _ E q (by omega) p).imp (fun d r1 ⟨q1, p1⟩ => wx_B ((h2 (k + c1) r1 _ E q1 (by omega) p1).imp (fun l r2 ⟨s, e, q2, p2⟩ => ⟨(d, s), by rw [e], q2.up (by omega), p2⟩) fun _ _ _ ⟨a, b⟩ => ⟨a.up (by omega), b⟩)) fun _ _ _ ⟨a, b⟩ => ⟨a.up (by omega), b⟩)
theorem sp'_new {a : M (List D)} {ta : TM (List D)} {m : M (List PIt)} {tm : TM σ} {is : σ → List PIt} (h1 : SimM c1 f g a ta) (h2 : SimP c2 f g m tm is) (hc : c1 + c2 ≤ c) : SimP c f g (pNew a m) (tb ta fun d => tb tm fun s => tp (d, s)) (fun p => .new p.1 :: is p.2) := fun k r P E q l p =>
  wx_B ((h1 k r _ E q (by omega) p).imp (fun d r1 ⟨q1, p1⟩ => wx_B ((h2 (k + c1) r1 _ E q1 (by omega) p1).imp (fun l r2 ⟨s, e, q2, p2⟩ => ⟨(d, s), by rw [e], q2.up (by omega), p2⟩) fun _ _ _ ⟨a, b⟩ => ⟨a.up (by omega), b⟩)) fun _ _ _ ⟨a, b⟩ => ⟨a.up (by omega), b⟩)
theorem sb_parN {js : List Nat} {m : M (List PIt)} {tm : TM σ} {is : σ → List PIt} {r : M Fl} {u : σ → TM τ} (f2 : σ → Pat) (h : SimP c1 f g m tm is) (h1 : ∀ s j ds, setIts js (is s) (f j ds) = .ok () (f2 s j ds)) (h2 : ∀ s, SimB c2 (f2 s) g r (u s) fl pat) (hc : c1 + c2 ≤ c) :
    SimB c f g (sSeq (sParN js m) r) (tb tm u) fl pat := fun k r P E q l p => by
  refine seq_nx (wx_B ((h k r _ E q (by omega) p).imp (fun a r1 ⟨s, e2, ⟨j, ds, w, e⟩, p1⟩ => ?_) fun _ _ _ ⟨a, b⟩ => ⟨a.up (by omega), b⟩))
  subst e e2
  refine wx_B (wx_of (h1 s j ds) ⟨rfl, ?_⟩)
  exact (h2 s (k + c1) _ P E ⟨j, ds, w, rfl⟩ (by omega) p1).imp (fun _ _ ⟨a, b, q, z⟩ => ⟨a, b, q.up (by omega), z⟩) fun _ _ _ ⟨a, b⟩ => ⟨a.up (by omega), b⟩
end
section
variable {α β τ σ υ : Type} {f g : Pat} {c c1 c2 c3 c4 : Nat} {fl : τ → Fl → Prop} {pat : τ → Pat} {t : TM τ}
theorem Wx.up {k c c' : Nat} {f g : Pat} {α : Type} {m : M α} {r : List Ent} {Q : α → List Ent → Prop} {E : Str → Option (Str × D) → List Ent → Prop} {Q' : α → List Ent → Prop} {E' : XP} (h : Wx m r Q fun x p r => Got g (k + c) r ∧ E' x p) (q : ∀ a r, Q a r → Q' a r) (e : c ≤ c') : Wx m r Q' fun x p r => Got g (k + c') r ∧ E' x p :=
  h.imp q fun _ _ _ ⟨a, b⟩ => ⟨a.up (by omega), b⟩
/-! loops -/
def flC (_ : σ) (x : Fl) : Prop := x = .nx ∨ x = .co
def flX (s : Lx σ) (x : Fl) : Prop := match s with
  | .go _ => x = .nx ∨ x = .co
  | .br _ => x = .br
  | .rt d => x = .rt d
def patX (F : σ → Pat) (G : Pat) : Lx σ → Pat
  | .go s => F s
  | .br s => F s
  | .rt _ => G
theorem for_run {gt : D → M Unit} {b : M Fl} {tg : D → TM υ} {body : σ → υ → TM σ} {F : σ → Pat} {f1 : σ → υ → Pat} (hg : ∀ s d, SimG c1 (F s) g (gt d) (tg d) (f1 s)) (hb : ∀ s u, SimB c2 (f1 s u) g b (body s u) flC F) : ∀ (ds : List D) (s : σ) (k : Nat) (r : List Ent) (P : σ → Prop) (E : XP), Got (F s) k r → k + (c1 + c2) * ds.length ≤ big →
    forL (fun d s => tb (tg d) (body s)) ds s P E → Wx (forD gt b ds) r (fun x r => x = .nx ∧ ∃ s, Got (F s) (k + (c1 + c2) * ds.length) r ∧ P s) fun x p r => Got g (k + (c1 + c2) * ds.length) r ∧ E x p
  | [], s, k, r, P, E, q, l, p => ⟨rfl, s, q, p⟩
  | d :: ds, s, k, r, P, E, q, l, p => by
    rw [List.length_cons, Nat.mul_succ] at l ⊢
    generalize hn : (c1 + c2) * ds.length = n at l ⊢
    refine wx_B ((hg s d k r _ E q (by omega) p).imp (fun _ r1 ⟨u, q1, p1⟩ => wx_B ((hb s u (k + c1) r1 _ E q1 (by omega) p1).imp (fun x r2 ⟨s2, e, q2, p2⟩ => ?_) fun _ _ _ ⟨a, b⟩ => ⟨a.up (by omega), b⟩)) fun _ _ _ ⟨a, b⟩ => ⟨a.up (by omega), b⟩)
    have := for_run hg hb ds s2 (k + (c1 + c2)) r2 P E (q2.up (by omega)) (by omega) p2
    rw [hn] at this
    have e3 : k + (c1 + c2) + n = k + (n + (c1 + c2)) := by omega
    rw [e3] at this
    rcases e with rfl | rfl <;> exact this
theorem sb_for {it : M (List D)} {ti : TM (List D)} {gt : D → M Unit} {b m : M Fl} {tg : D → TM υ} {body : σ → υ → TM σ} {u : σ → TM τ} (F : σ → Pat) (f1 : σ → υ → Pat) (s0 : σ) (hi : SimM c1 f g it ti) (hw : Wk f (F s0)) (hg : ∀ s d, SimG c2 (F s) g (gt d) (tg d) (f1 s)) (hb : ∀ s u, SimB c3 (f1 s u) g b (body s u) flC F)
    (h2 : ∀ s, SimB c4 (F s) g m (u s) fl pat) (hc : c1 + (c2 + c3) * most + c4 ≤ c) : SimB c f g (sSeq (sFor it gt b) m) (tb (forT ti s0 fun d s => tb (tg d) (body s)) u) fl pat := fun k r P E q l p => by
  refine seq_nx (wx_B ((hi k r _ E q (by omega) p).imp (fun ds r1 ⟨q1, p0, p1⟩ => ?_) fun _ _ _ ⟨a, b⟩ => ⟨a.up (by omega), b⟩))
  have hl : (c2 + c3) * ds.length ≤ (c2 + c3) * most := Nat.mul_le_mul_left _ p0
  generalize hn : (c2 + c3) * most = n at hl hc
  refine (for_run hg hb ds s0 (k + c1) r1 _ E (q1.wk hw) (by omega) p1).imp (fun x r2 ⟨e, s, q2, p2⟩ => ⟨e, ?_⟩) fun _ _ _ ⟨a, b⟩ => ⟨a.up (by omega), b⟩
  exact (h2 s (k + c1 + n) r2 P E (q2.up (by omega)) (by omega) p2).imp (fun _ _ ⟨a, b, q, z⟩ => ⟨a, b, q.up (by omega), z⟩) fun _ _ _ ⟨a, b⟩ => ⟨a.up (by omega), b⟩
theorem forX_run {gt : D → M Unit} {b : M Fl} {tg : D → TM υ} {body : σ → υ → TM (Lx σ)} {F : σ → Pat} {f1 : σ → υ → Pat} (hg : ∀ s d, SimG c1 (F s) g (gt d) (tg d) (f1 s)) (hb : ∀ s u, SimB c2 (f1 s u) g b (body s u) flX (patX F g)) : ∀ (ds : List D) (s : σ) (k : Nat) (r : List Ent) (P : Lx σ → Prop) (E : XP), Got (F s) k r → k + (c1 + c2) * ds.length ≤ big →
    forXL (fun d s => tb (tg d) (body s)) ds s P E → Wx (forD gt b ds) r (fun x r => (x = .nx ∧ ∃ s, Got (F s) (k + (c1 + c2) * ds.length) r ∧ P (.go s)) ∨ ∃ d, x = .rt d ∧ Got g (k + (c1 + c2) * ds.length) r ∧ P (.rt d)) fun x p r => Got g (k + (c1 + c2) * ds.length) r ∧ E x p
  | [], s, k, r, P, E, q, l, p => .inl ⟨rfl, s, q, p⟩
  | d :: ds, s, k, r, P, E, q, l, p => by
    rw [List.length_cons, Nat.mul_succ] at l ⊢
    generalize hn : (c1 + c2) * ds.length = n at l ⊢
    refine wx_B ((hg s d k r _ E q (by omega) p).imp (fun _ r1 ⟨u, q1, p1⟩ => wx_B ((hb s u (k + c1) r1 _ E q1 (by omega) p1).imp (fun x r2 ⟨s2, e, q2, p2⟩ => ?_) fun _ _ _ ⟨a, b⟩ => ⟨a.up (by omega), b⟩)) fun _ _ _ ⟨a, b⟩ => ⟨a.up (by omega), b⟩)
    cases s2 with
    | go s2 =>
      have := forX_run hg hb ds s2 (k + (c1 + c2)) r2 P E (q2.up (by omega)) (by omega) p2
      rw [hn] at this
      have e3 : k + (c1 + c2) + n = k + (n + (c1 + c2)) := by omega
      rw [e3] at this
      rcases e with rfl | rfl <;> exact this
    | br s2 =>
      cases e
      exact .inl ⟨rfl, s2, q2.up (by omega), p2⟩
    | rt d =>
      cases e
      exact .inr ⟨d, rfl, q2.up (by omega), p2⟩
theorem sb_forX {it : M (List D)} {ti : TM (List D)} {gt : D → M Unit} {b m : M Fl} {tg : D → TM υ} {body : σ → υ → TM (Lx σ)} {u : σ → TM τ} {w : D → TM τ} (F : σ → Pat) (f1 : σ → υ → Pat) (s0 : σ) (ro : D → τ) (hr1 : ∀ d, w d = tp (ro d)) (hr2 : ∀ d, fl (ro d) (.rt d)) (hr3 : ∀ d, Wk g (pat (ro d))) (hi : SimM c1 f g it ti) (hw : Wk f (F s0)) (hg : ∀ s d, SimG c2 (F s) g (gt d) (tg d) (f1 s)) (hb : ∀ s u, SimB c3 (f1 s u) g b (body s u) flX (patX F g))
    (h2 : ∀ s, SimB c4 (F s) g m (u s) fl pat) (hc : c1 + (c2 + c3) * most + c4 ≤ c) : SimB c f g (sSeq (sFor it gt b) m) (tb (forX ti s0 fun d s => tb (tg d) (body s)) fun o => tFin o w u) fl pat := fun k r P E q l p => by
  refine wx_B (wx_B ((hi k r _ E q (by omega) p).imp (fun ds r1 ⟨q1, p0, p1⟩ => ?_) fun _ _ _ ⟨a, b⟩ => ⟨a.up (by omega), b⟩))
  have hl : (c2 + c3) * ds.length ≤ (c2 + c3) * most := Nat.mul_le_mul_left _ p0
  generalize hn : (c2 + c3) * most = n at hl hc
  refine (forX_run hg hb ds s0 (k + c1) r1 _ E (q1.wk hw) (by omega) p1).imp (fun x r2 z => ?_) fun _ _ _ ⟨a, b⟩ => ⟨a.up (by omega), b⟩
  rcases z with ⟨rfl, s, q2, p2⟩ | ⟨d, rfl, q2, p2⟩
  · exact (h2 s (k + c1 + n) r2 P E (q2.up (by omega)) (by omega) p2).imp (fun _ _ ⟨a, b, q, z⟩ => ⟨a, b, q.up (by omega), z⟩) fun _ _ _ ⟨a, b⟩ => ⟨a.up (by omega), b⟩
  · have p2 : w d P E := p2
    rw [hr1] at p2
    exact ⟨ro d, hr2 d, (q2.up (by omega)).wk (hr3 d), p2⟩
theorem while_run {cc : M Bool} {b : M Fl} {tc : σ → TM Bool} {body : σ → TM σ} {F : σ → Pat} (hcn : ∀ s, SimM c1 (F s) g cc (tc s)) (hb : ∀ s, SimB c2 (F s) g b (body s) flC F) : ∀ (n : Nat) (s : σ) (k : Nat) (r : List Ent) (P : σ → Prop) (E : XP), Got (F s) k r → k + (c1 + c2) * n ≤ big →
    whileT tc body n s P E → Wx (whileD cc b n) r (fun x r => x = .nx ∧ ∃ s, Got (F s) (k + (c1 + c2) * n) r ∧ P s) fun x p r => Got g (k + (c1 + c2) * n) r ∧ E x p
  | 0, s, k, r, P, E, q, l, p => p.elim
  | n + 1, s, k, r, P, E, q, l, p => by
    rw [Nat.mul_succ] at l ⊢
    generalize hn : (c1 + c2) * n = N at l ⊢
    refine wx_B ((hcn s k r _ E q (by omega) p).imp (fun x r1 ⟨q1, p1⟩ => ?_) fun _ _ _ ⟨a, b⟩ => ⟨a.up (by omega), b⟩)
    cases x with
    | false => exact ⟨rfl, s, q1.up (by omega), p1⟩
    | true =>
      refine wx_B ((hb s (k + c1) r1 _ E q1 (by omega) p1).imp (fun x r2 ⟨s2, e, q2, p2⟩ => ?_) fun _ _ _ ⟨a, b⟩ => ⟨a.up (by omega), b⟩)
      have := while_run hcn hb n s2 (k + (c1 + c2)) r2 P E (q2.up (by omega)) (by omega) p2
      rw [hn] at this
      have e3 : k + (c1 + c2) + N = k + (N + (c1 + c2)) := by omega
      rw [e3] at this
      rcases e with rfl | rfl <;> exact this
theorem sb_while {n : Nat} {cc : M Bool} {b m : M Fl} {tc : σ → TM Bool} {body : σ → TM σ} {u : σ → TM τ} (F : σ → Pat) (s0 : σ) (hw : Wk f (F s0)) (hcn : ∀ s, SimM c1 (F s) g cc (tc s)) (hb : ∀ s, SimB c2 (F s) g b (body s) flC F) (h2 : ∀ s, SimB c3 (F s) g m (u s) fl pat) (hc : (c1 + c2) * n + c3 ≤ c) :
    SimB c f g (sSeq (whileD cc b n) m) (tb (whileT tc body n s0) u) fl pat := fun k r P E q l p => by
  generalize hn : (c1 + c2) * n = N at hc
  refine seq_nx ((while_run hcn hb n s0 k r _ E (q.wk hw) (by omega) p).imp (fun x r2 ⟨e, s, q2, p2⟩ => ⟨e, ?_⟩) fun _ _ _ ⟨a, b⟩ => ⟨a.up (by omega), b⟩)
  exact (h2 s (k + N) r2 P E (q2.up (by omega)) (by omega) p2).imp (fun _ _ ⟨a, b, q, z⟩ => ⟨a, b, q.up (by omega), z⟩) fun _ _ _ ⟨a, b⟩ => ⟨a.up (by omega), b⟩
theorem whileX_run {cc : M Bool} {b : M Fl} {tc : σ → TM Bool} {body : σ → TM (Lx σ)} {F : σ → Pat} (hcn : ∀ s, SimM c1 (F s) g cc (tc s)) (hb : ∀ s, SimB c2 (F s) g b (body s) flX (patX F g)) : ∀ (n : Nat) (s : σ) (k : Nat) (r : List Ent) (P : Lx σ → Prop) (E : XP), Got (F s) k r → k + (c1 + c2) * n ≤ big →
    whileX tc body n s P E → Wx (whileD cc b n) r (fun x r => (x = .nx ∧ ∃ s, Got (F s) (k + (c1 + c2) * n) r ∧ P (.go s)) ∨ ∃ d, x = .rt d ∧ Got g (k + (c1 + c2) * n) r ∧ P (.rt d)) fun x p r => Got g (k + (c1 + c2) * n) r ∧ E x p
  | 0, s, k, r, P, E, q, l, p => p.elim
  | n + 1, s, k, r, P, E, q, l, p => by
    rw [Nat.mul_succ] at l ⊢
    generalize hn : (c1 + c2) * n = N at l ⊢
    refine wx_B ((hcn s k r _ E q (by omega) p).imp (fun x r1 ⟨q1, p1⟩ => ?_) fun _ _ _ ⟨a, b⟩ => ⟨a.up (by omega), b⟩)
    cases x with
    | false => exact .inl ⟨rfl, s, q1.up (by omega), p1⟩
    | true =>
      refine wx_B ((hb s (k + c1) r1 _ E q1 (by omega) p1).imp (fun x r2 ⟨s2, e, q2, p2⟩ => ?_) fun _ _ _ ⟨a, b⟩ => ⟨a.up (by omega), b⟩)
      cases s2 with
      | go s2 =>
        have := whileX_run hcn hb n s2 (k + (c1 + c2)) r2 P E (q2.up (by omega)) (by omega) p2
        rw [hn] at this
        have e3 : k + (c1 + c2) + N = k + (N + (c1 + c2)) := by omega
        rw [e3] at this
        rcases e with rfl | rfl <;> exact this
      | br s2 =>
        cases e
        exact .inl ⟨rfl, s2, q2.up (by omega), p2⟩
      | rt d =>
        cases e
        exact .inr ⟨d, rfl, q2.up (by omega), p2⟩
theorem sb_whileX {n : Nat} {cc : M Bool} {b m : M Fl} {tc : σ → TM Bool} {body : σ → TM (Lx σ)} {u : σ → TM τ} {w : D → TM τ} (F : σ → Pat) (s0 : σ) (ro : D → τ) (hr1 : ∀ d, w d = tp (ro d)) (hr2 : ∀ d, fl (ro d) (.rt d)) (hr3 : ∀ d, Wk g (pat (ro d))) (hw : Wk f (F s0)) (hcn : ∀ s, SimM c1 (F s) g cc (tc s)) (hb : ∀ s, SimB c2 (F s) g b (body s) flX (patX F g)) (h2 : ∀ s, SimB c3 (F s) g m (u s) fl pat) (hc : (c1 + c2) * n + c3 ≤ c) :
    SimB c f g (sSeq (whileD cc b n) m) (tb (whileX tc body n s0) fun o => tFin o w u) fl pat := fun k r P E q l p => by
  generalize hn : (c1 + c2) * n = N at hc
  refine wx_B ((whileX_run hcn hb n s0 k r _ E (q.wk hw) (by omega) p).imp (fun x r2 z => ?_) fun _ _ _ ⟨a, b⟩ => ⟨a.up (by omega), b⟩)
  rcases z with ⟨rfl, s, q2, p2⟩ | ⟨d, rfl, q2, p2⟩
  · exact (h2 s (k + N) r2 P E (q2.up (by omega)) (by omega) p2).imp (fun _ _ ⟨a, b, q, z⟩ => ⟨a, b, q.up (by omega), z⟩) fun _ _ _ ⟨a, b⟩ => ⟨a.up (by omega), b⟩
  · have p2 : w d P E := p2
    rw [hr1] at p2
    exact ⟨ro d, hr2 d, (q2.up (by omega)).wk (hr3 d), p2⟩
/-! comprehensions -/
theorem comp_run {vs : List Nat} {gt : D → M Unit} {tt : M Bool} {e : M D} {tg : D → TM υ} {ut : υ → TM Bool} {ue : υ → TM D} {fw : Pat} {f1 : υ → Pat} (hg : ∀ d, SimG c1 fw anyP (gt d) (tg d) f1) (ht : ∀ u, SimM c2 (f1 u) anyP tt (ut u)) (he : ∀ u, SimM c3 (f1 u) anyP e (ue u)) (hb : ∀ u js ds, ∃ js', wipeE (f1 u js ds) vs = fw js' ds) :
    ∀ (ds acc : List D) (k : Nat) (r : List Ent) (P : List D → Prop), Got fw k r → k + (c1 + c2 + c3) * ds.length ≤ big → acc.length + ds.length ≤ most → compL tg ut ue ds P (fun _ _ => False) → Wx (compD vs gt tt e ds acc) r (fun l r => Got fw (k + (c1 + c2 + c3) * ds.length) r ∧ ∃ l', l = acc ++ l' ∧ P l') fun _ _ _ => False
  | [], acc, k, r, P, q, l, hl, p => ⟨q, [], (List.append_nil _).symm, p⟩
  | d :: ds, acc, k, r, P, q, l, hl, p => by
    rw [List.length_cons] at hl
    rw [List.length_cons, Nat.mul_succ] at l ⊢
    generalize hn : (c1 + c2 + c3) * ds.length = n at l ⊢
    have nx : ∀ {α : Type} {m : M α} {r : List Ent} {Q Q' : α → List Ent → Prop} {E : Str → Option (Str × D) → List Ent → Prop}, Wx m r Q E → (∀ c p r, ¬ E c p r) → (∀ a r, Q a r → Q' a r) → Wx (noX m) r Q' fun _ _ _ => False := fun {α m r Q Q' E} h hE hQ => by
      unfold Wx at *
      unfold noX
      cases e : m r with
      | ok a o => rw [e] at h; exact hQ _ _ h
      | exc c p o => rw [e] at h; exact (hE _ _ _ h).elim
      | bad => rw [e] at h; exact h.elim
    refine wx_B (nx (hg d k r _ (fun _ _ => False) q (by omega) p) (fun _ _ _ z => z.2) fun _ r1 ⟨u, q1, p1⟩ => ?_)
    refine wx_B (nx (ht u (k + c1) r1 _ (fun _ _ => False) q1 (by omega) p1) (fun _ _ _ z => z.2) fun kk r2 ⟨q2, p2⟩ => ?_)
    cases kk with
    | true =>
      refine wx_B (nx (he u (k + c1 + c2) r2 _ (fun _ _ => False) q2 (by omega) p2) (fun _ _ _ z => z.2) fun y r3 ⟨⟨js, w, hw, e3⟩, p3⟩ => ?_)
      obtain ⟨js', e4⟩ := hb u js w
      have := comp_run hg ht he hb ds (acc ++ [y]) (k + (c1 + c2 + c3)) (wipeE r3 vs) _ ⟨js', w, hw.up (by omega), by rw [e3, e4]⟩ (by omega) (by rw [List.length_append, List.length_singleton]; omega) p3
      rw [hn] at this
      have e5 : k + (c1 + c2 + c3) + n = k + (n + (c1 + c2 + c3)) := by omega
      rw [e5] at this
      have h8 : decide (acc.length < most) = true := decide_eq_true (by omega)
      unfold Wx at this ⊢
      simp only [h8, if_true]
      cases e6 : compD vs gt tt e ds (acc ++ [y]) (wipeE r3 vs) with
      | ok a o =>
        rw [e6] at this
        obtain ⟨h1, l', e7, h2⟩ := this
        exact ⟨h1, y :: l', by rw [e7, List.append_assoc]; rfl, h2⟩
      | exc c p o => rw [e6] at this; exact this
      | bad => rw [e6] at this; exact this
    | false =>
      obtain ⟨js, w, hw, e3⟩ := q2
      obtain ⟨js', e4⟩ := hb u js w
      have := comp_run hg ht he hb ds acc (k + (c1 + c2 + c3)) (wipeE r2 vs) _ ⟨js', w, hw.up (by omega), by rw [e3, e4]⟩ (by omega) (by omega) p2
      rw [hn] at this
      have e5 : k + (c1 + c2 + c3) + n = k + (n + (c1 + c2 + c3)) := by omega
      rw [e5] at this
      unfold Wx at this ⊢
      exact this
theorem sm_comp {vs : List Nat} {it : M (List D)} {ti : TM (List D)} {gt : D → M Unit} {tt : M Bool} {e : M D} {tg : D → TM υ} {ut : υ → TM Bool} {ue : υ → TM D} (fw : Pat) (f1 : υ → Pat) (hi : SimM c1 f g it ti) (hg : ∀ d, SimG c2 fw anyP (gt d) (tg d) f1) (ht : ∀ u, SimM c3 (f1 u) anyP tt (ut u)) (he : ∀ u, SimM c4 (f1 u) anyP e (ue u))
    (hn : ∀ js ds, noCel vs (f js ds) = true) (h0 : ∀ js ds, wipeE (f js ds) vs = fw js ds) (hb : ∀ u js ds, ∃ js', wipeE (f1 u js ds) vs = fw js' ds) (hp : ∀ js0 ds0 js ds, ∃ js', putBack (f js0 ds0) (fw js ds) vs = f js' ds) (hc : c1 + (c2 + c3 + c4) * most ≤ c) : SimM c f g (lComp vs it gt tt e) (compT ti tg ut ue) := fun k r P E q l p => by
  refine wx_B ((hi k r _ E q (by omega) p).imp (fun ds r1 ⟨⟨js, w, hw, e1⟩, p0, p1⟩ => ?_) fun _ _ _ ⟨a, b⟩ => ⟨a.up (by omega), b⟩)
  have hl : (c2 + c3 + c4) * ds.length ≤ (c2 + c3 + c4) * most := Nat.mul_le_mul_left _ p0
  generalize hN : (c2 + c3 + c4) * most = n at hl hc
  subst e1
  have := comp_run (vs := vs) hg ht he hb ds [] (k + c1) (fw js w) P ⟨js, w, hw, rfl⟩ (by omega) (by simpa using p0) p1
  unfold Wx at this ⊢
  simp only [hn, if_true, h0]
  cases e6 : compD vs gt tt e ds [] (fw js w) with
  | ok a o =>
    rw [e6] at this
    obtain ⟨⟨js2, w2, hw2, e7⟩, l', e8, h2⟩ := this
    obtain ⟨js3, e9⟩ := hp js w js2 w2
    subst e7
    rw [List.nil_append] at e8
    subst e8
    exact ⟨⟨js3, w2, hw2.up (by omega), e9⟩, h2⟩
  | exc c p o => rw [e6] at this; exact this.elim
  | bad => rw [e6] at this; exact this.elim
/-! defs -/
theorem sf_def {n : Nat} {b : M Fl} {tF : List D → TM D} (h : ∀ (ds : List D) (P : D → Prop) (E : XP), tF ds P E → ∃ (f : Pat), (∀ js w, f js w = valsOf ds ++ List.replicate (n - ds.length) .no) ∧ ∃ t : TM D, t P E ∧ SimB 0 f anyP b t flR (fun _ => anyP)) : SimF0 (defF none false n b) tF := fun ds P E p => by
  obtain ⟨f, h1, t, h2, h3⟩ := h ds P E p
  have := h3 0 (f ⟨[], []⟩ w0) P E ⟨_, _, wel0, rfl⟩ (Nat.zero_le _) h2
  rw [h1] at this
  unfold Wx at this
  unfold WxF defF
  have lv : (valsOf ds).length = ds.length := List.length_map ..
  rw [lv]
  cases e : b (valsOf ds ++ List.replicate (n - ds.length) .no) with
  | ok fl r =>
    rw [e] at this
    obtain ⟨a, hf, _, z⟩ := this
    rcases hf with rfl | ⟨rfl, rfl⟩ <;> exact z
  | exc c p r => rw [e] at this; exact this.2
  | bad => rw [e] at this; exact this
theorem sf_defL {n : Nat} {b : M Fl} {tF : List D → TM D} (h : ∀ (ds : List D) (P : D → Prop) (E : XP), tF ds P E → ∃ (f : Pat), (∀ js w, f js w = valsOf ds ++ List.replicate (n - ds.length) .no) ∧ ∃ t : TM D, t P E ∧ SimB 0 f anyP b t flL (fun _ => anyP)) : SimF0 (defF none true n b) tF := fun ds P E p => by
  obtain ⟨f, h1, t, h2, h3⟩ := h ds P E p
  have := h3 0 (f ⟨[], []⟩ w0) P E ⟨_, _, wel0, rfl⟩ (Nat.zero_le _) h2
  rw [h1] at this
  unfold Wx at this
  unfold WxF defF
  have lv : (valsOf ds).length = ds.length := List.length_map ..
  rw [lv]
  cases e : b (valsOf ds ++ List.replicate (n - ds.length) .no) with
  | ok fl r =>
    rw [e] at this
    obtain ⟨a, ⟨es, rfl, rfl⟩, _, z⟩ := this
    exact z
  | exc c p r => rw [e] at this; exact this.2
  | bad => rw [e] at this; exact this
/-- a def with draws inside but no well of the caller's (law) -/
theorem sf_defW {n : Nat} {b : M Fl} {tF : List D → TM D} (hc : c ≤ big) (h : ∀ (ds : List D) (P : D → Prop) (E : XP), tF ds P E → ∃ (f : Pat), (∀ js w, f js w = valsOf ds ++ List.replicate (n - ds.length) .no) ∧ ∃ t : TM D, t P E ∧ SimB c f anyP b t flR (fun _ => anyP)) : SimF0 (defF none false n b) tF := fun ds P E p => by
  obtain ⟨f, h1, t, h2, h3⟩ := h ds P E p
  have := h3 0 (f ⟨[], []⟩ w0) P E ⟨_, _, wel0, rfl⟩ (by omega) h2
  rw [h1] at this
  unfold Wx at this
  unfold WxF defF
  have lv : (valsOf ds).length = ds.length := List.length_map ..
  rw [lv]
  cases e : b (valsOf ds ++ List.replicate (n - ds.length) .no) with
  | ok fl r =>
    rw [e] at this
    obtain ⟨a, hf, _, z⟩ := this
    rcases hf with rfl | ⟨rfl, rfl⟩ <;> exact z
  | exc c p r => rw [e] at this; exact this.2
  | bad => rw [e] at this; exact this
/-- a def that draws -/
theorem sf_defI {n i : Nat} {b : M Fl} {g : Pat} {tF : List D → TM D} (hg : ∀ js w, (g js w)[i]? = some (.cel .io w)) (h : ∀ (pre post : List D) (P : D → Prop) (E : XP), pre.length = i → tF (pre ++ post) P E → ∃ (f : Pat), (∀ js w, f js w = ioArgs pre w post ++ List.replicate (n - (pre.length + 1 + post.length)) .no) ∧ ∃ t : TM D, t P E ∧ SimB c f g b t flR (fun _ => g)) : SimFW c i (defF (some i) false n b) tF := fun k w pre post P E hi hw l p => by
  obtain ⟨f, h1, t, h2, h3⟩ := h pre post P E hi p
  have := h3 k (f ⟨[], []⟩ w) P E ⟨_, _, hw, rfl⟩ l h2
  rw [h1] at this
  unfold Wx at this
  unfold WxF defF
  have lv : (ioArgs pre w post).length = pre.length + 1 + post.length := by unfold ioArgs valsOf; simp; omega
  rw [lv]
  cases e : b (ioArgs pre w post ++ List.replicate (n - (pre.length + 1 + post.length)) .no) with
  | ok fl r =>
    rw [e] at this
    obtain ⟨a, hf, ⟨js, w', hw', rfl⟩, z⟩ := this
    simp only [outs, hg]
    rcases hf with rfl | ⟨rfl, rfl⟩ <;> exact ⟨⟨w', hw', rfl⟩, z⟩
  | exc c p r =>
    rw [e] at this
    obtain ⟨⟨js, w', hw', rfl⟩, z⟩ := this
    simp only [outs, hg]
    exact ⟨⟨w', hw', rfl⟩, z⟩
  | bad => rw [e] at this; exact this
theorem sf_defIL {n i : Nat} {b : M Fl} {g : Pat} {tF : List D → TM D} (hg : ∀ js w, (g js w)[i]? = some (.cel .io w)) (h : ∀ (pre post : List D) (P : D → Prop) (E : XP), pre.length = i → tF (pre ++ post) P E → ∃ (f : Pat), (∀ js w, f js w = ioArgs pre w post ++ List.replicate (n - (pre.length + 1 + post.length)) .no) ∧ ∃ t : TM D, t P E ∧ SimB c f g b t flL (fun _ => g)) : SimFW c i (defF (some i) true n b) tF := fun k w pre post P E hi hw l p => by
  obtain ⟨f, h1, t, h2, h3⟩ := h pre post P E hi p
  have := h3 k (f ⟨[], []⟩ w) P E ⟨_, _, hw, rfl⟩ l h2
  rw [h1] at this
  unfold Wx at this
  unfold WxF defF
  have lv : (ioArgs pre w post).length = pre.length + 1 + post.length := by unfold ioArgs valsOf; simp; omega
  rw [lv]
  cases e : b (ioArgs pre w post ++ List.replicate (n - (pre.length + 1 + post.length)) .no) with
  | ok fl r =>
    rw [e] at this
    obtain ⟨a, ⟨es, rfl, rfl⟩, ⟨js, w', hw', rfl⟩, z⟩ := this
    simp only [outs, hg]
    exact ⟨⟨w', hw', rfl⟩, z⟩
  | exc c p r =>
    rw [e] at this
    obtain ⟨⟨js, w', hw', rfl⟩, z⟩ := this
    simp only [outs, hg]
    exact ⟨⟨w', hw', rfl⟩, z⟩
  | bad => rw [e] at this; exact this
end
end FL
namespace FL
open PySem PySem.Spec L2
section
variable {α τ σ : Type} {f g : Pat} {c c1 c2 c3 : Nat} {fl : τ → Fl → Prop} {pat : τ → Pat} {t : TM τ}
theorem ret_seq {m : M D} {r : M Fl} : sSeq (sRet m) r = sRet m := by
  funext x
  unfold sSeq sRet mB mP
  cases m x <;> rfl
theorem retL_seq {m : M (List D)} {r : M Fl} : sSeq (sRetL m) r = sRetL m := by
  funext x
  unfold sSeq sRetL mB mP
  cases m x <;> rfl
theorem retC_run (i : Nat) (x : List Ent) : sRetC i x = .bad ∨ ∃ ds, sRetC i x = .ok (.rtL ds) x := by
  unfold sRetC
  split
  · exact .inr ⟨_, rfl⟩
  · exact .inl rfl
theorem retC_seq {i : Nat} {r : M Fl} : sSeq (sRetC i) r = sRetC i := by
  funext x
  unfold sSeq mB
  rcases retC_run i x with e | ⟨ds, e⟩ <;> simp only [e] <;> rfl
theorem rt_seq {d : D} {r : M Fl} : sSeq (mP (.rt d)) r = mP (.rt d) := rfl
theorem br_seq {r : M Fl} : sSeq (mP .br) r = mP .br := rfl
theorem co_seq {r : M Fl} : sSeq (mP .co) r = mP .co := rfl
theorem sb_eq {a m : M Fl} (e : sSeq a m = a) (h : SimB c f g a t fl pat) : SimB c f g (sSeq a m) t fl pat := by rw [e]; exact h
theorem sb_frzseq {j : Nat} {a m : M Fl} (h : SimB c f g (frz j (sSeq a m)) t fl pat) : SimB c f g (sSeq (frz j a) m) t fl pat := fun k r P E q l p => by
  have := h k r P E q l p
  unfold Wx frz sSeq mB at this
  unfold Wx sSeq mB frz
  cases e : r[j]? with
  | none => rw [e] at this; exact this
  | some en =>
    rw [e] at this
    cases en with
    | cel k ds => cases k <;> exact this
    | _ => exact this
variable {a b e : M D} {ta te : TM D} {tb' : TM D} {m : M (List D)} {tm : TM (List D)}
theorem sm_2z {op : D → D → Option D} (h1 : SimM 0 f g a ta) (h2 : SimM 0 f g b tb') : SimM 0 f g (x2 op a b) (t2 op ta tb') := sm_2 h1 h2 (Nat.le_refl 0)
theorem sm_andz (h1 : SimM 0 f g a ta) (h2 : SimM 0 f g b tb') : SimM 0 f g (xAnd a b) (tAnd ta tb') := sm_and h1 h2 (Nat.le_refl 0)
theorem sm_orz (h1 : SimM 0 f g a ta) (h2 : SimM 0 f g b tb') : SimM 0 f g (xOr a b) (tOr ta tb') := sm_or h1 h2 (Nat.le_refl 0)
theorem sm_ifz {k : M Bool} {tk : TM Bool} (h0 : SimM 0 f g k tk) (h1 : SimM 0 f g a ta) (h2 : SimM 0 f g b tb') : SimM 0 f g (xIf k a b) (tIf tk ta tb') := sm_if h0 h1 h2 (Nat.le_refl 0)
theorem sm_chainz {o o' : D → D → Option D} (h1 : SimM 0 f g a ta) (h2 : SimM 0 f g b tb') (h3 : SimM 0 f g e te) : SimM 0 f g (xChain o o' a b e) (tChain o o' ta tb' te) := sm_chain h1 h2 h3 (Nat.le_refl 0)
theorem sm_consz (h1 : SimM 0 f g a ta) (h2 : SimM 0 f g m tm) : SimM 0 f g (dCons a m) (tCons ta tm) := sm_cons h1 h2 (Nat.le_refl 0)
theorem sm_cutz {lo hi : M (Option Int)} {tl th : TM (Option Int)} (h1 : SimM 0 f g a ta) (h2 : SimM 0 f g lo tl) (h3 : SimM 0 f g hi th) : SimM 0 f g (xCut a lo hi) (tCut ta tl th) := sm_cut h1 h2 h3 (Nat.le_refl 0)
theorem sm_tAndz {p q : M Bool} {tp' tq : TM Bool} (h1 : SimM 0 f g p tp') (h2 : SimM 0 f g q tq) : SimM 0 f g (tAndM p q) (ttAnd tp' tq) := sm_tAnd h1 h2 (Nat.le_refl 0)
theorem sm_tOrz {p q : M Bool} {tp' tq : TM Bool} (h1 : SimM 0 f g p tp') (h2 : SimM 0 f g q tq) : SimM 0 f g (tOrM p q) (ttOr tp' tq) := sm_tOr h1 h2 (Nat.le_refl 0)
end
theorem sm_callPv {f g : Pat} {c np i : Nat} {v : Str} {d : D} {F : List Ent → R D} {tF : List D → TM D} {m : M (List D)} {tm : TM (List D)} (hv : ∀ js ds, (f js ds)[i]? = some (.val d)) (hx : Wk f g) (hF : SimF0 F tF) (hn : ∀ ds P E, tF ds P E → ds.length = np) (h : SimM c f g m tm) : SimM c f g (callP i v np F m) (tA (d = .dfn v) (tb tm tF)) := fun k r P E q l ⟨e, p⟩ =>
  sm_callP (fun js ds => by rw [hv, e]) hx hF hn h k r P E q l p
theorem lebig {c : Nat} (h : Nat.ble c (10 ^ 200) = true) : c ≤ big := Nat.le_trans (Nat.le_of_ble_eq_true h) (Nat.le_trans (Nat.pow_le_pow_left (show 10 ≤ 2 ^ 10 by decide) 200) (by rw [← Nat.pow_mul]; exact Nat.le_refl _))
theorem defF_out {fr : Bool} {n : Nat} {b : M Fl} {es o : List Ent} {d : D} (h : defF none fr n b es = .ok d o) : o = [] := by
  unfold defF at h
  cases e : b (es ++ List.replicate (n - es.length) .no) with
  | ok fl r =>
    rw [e] at h
    simp only [outs] at h
    cases fl <;> cases fr <;> cases h <;> rfl
  | exc c p r => rw [e] at h; simp only [outs] at h; cases h
  | bad => rw [e] at h; cases h
theorem plain_of {n : Nat} {b : M Fl} {t : D → TM D} (s : SimF0 (defF none false n b) (u1 t)) (h : ∀ ns : List Int, ns.length ≤ 63 → t (.scr (ns.map .int)) (fun d => d = .bl true) (fun _ _ => False)) : Plain (defF none false n b) := fun ns hl _ => by
  have := s [.scr (ns.map .int)] _ _ (h ns hl)
  unfold WxF at this
  cases e : defF none false n b (valsOf [.scr (ns.map .int)]) with
  | ok d o =>
    rw [e] at this
    have e2 := defF_out e
    subst this e2
    exact e
  | exc c p o => rw [e] at this; exact this.elim
  | bad => rw [e] at this; exact this.elim
theorem u0_inv {t : TM D} {P : D → Prop} {E : XP} : ∀ {ds : List D}, u0 t ds P E → ds = [] ∧ t  P E
  | [], p => ⟨rfl, p⟩
  | _ :: _, p => p.elim
theorem u0_len {t : TM D} : ∀ (ds : List D) (P : D → Prop) (E : XP), u0 t ds P E → ds.length = 0 := fun ds P E p => by
  obtain ⟨rfl, p⟩ := u0_inv p
  rfl
theorem u0_len' {t : TM D} : ∀ (ds : List D) (P : D → Prop) (E : XP), u0 t ds P E → ds.length + 1 = 1 := fun ds P E p => by
  rw [u0_len ds P E p]
theorem sf0 {n : Nat} {B : M Fl} {t : TM D} (f : Pat) (hf : ∀  js w, f  js w = [] ++ List.replicate (n - 0) .no) (h : SimB 0 f anyP B (t) flR (fun _ => anyP)) : SimF0 (defF none false n B) (u0 t) := sf_def fun ds P E p => by
  obtain ⟨rfl, p⟩ := u0_inv p
  exact ⟨f, fun js w => hf  js w, _, p, h ⟩
theorem sfL0 {n : Nat} {B : M Fl} {t : TM D} (f : Pat) (hf : ∀  js w, f  js w = [] ++ List.replicate (n - 0) .no) (h : SimB 0 f anyP B (t) flL (fun _ => anyP)) : SimF0 (defF none true n B) (u0 t) := sf_defL fun ds P E p => by
  obtain ⟨rfl, p⟩ := u0_inv p
  exact ⟨f, fun js w => hf  js w, _, p, h ⟩
theorem sfI0_0 {n cc : Nat} {B : M Fl} {g : Pat} {t : TM D} (hg : ∀ js w, (g js w)[0]? = some (.cel .io w)) (f : Pat) (hf : ∀  js w, f  js w = [.cel .io w] ++ List.replicate (n - 1) .no) (h : SimB cc f g B (t) flR (fun _ => g)) : SimFW cc 0 (defF (some 0) false n B) (u0 t) := sf_defI hg fun pre post P E hi p => by
  obtain ⟨e, z⟩ := u0_inv p
  cases pre with
  | cons _ _ => cases hi
  | nil =>
    cases (show post = _ from e)
    exact ⟨f, fun js w => hf  js w, _, p, h ⟩
theorem sfIL0_0 {n cc : Nat} {B : M Fl} {g : Pat} {t : TM D} (hg : ∀ js w, (g js w)[0]? = some (.cel .io w)) (f : Pat) (hf : ∀  js w, f  js w = [.cel .io w] ++ List.replicate (n - 1) .no) (h : SimB cc f g B (t) flL (fun _ => g)) : SimFW cc 0 (defF (some 0) true n B) (u0 t) := sf_defIL hg fun pre post P E hi p => by
  obtain ⟨e, z⟩ := u0_inv p
  cases pre with
  | cons _ _ => cases hi
  | nil =>
    cases (show post = _ from e)
    exact ⟨f, fun js w => hf  js w, _, p, h ⟩
theorem u1_inv {t : D → TM D} {P : D → Prop} {E : XP} : ∀ {ds : List D}, u1 t ds P E → ∃ y1, ds = [y1] ∧ t y1 P E
  | [y1], p => ⟨y1, rfl, p⟩
  | [], p => p.elim
  | _ :: _ :: _, p => p.elim
theorem u1_len {t : D → TM D} : ∀ (ds : List D) (P : D → Prop) (E : XP), u1 t ds P E → ds.length = 1 := fun ds P E p => by
  obtain ⟨y1, rfl, p⟩ := u1_inv p
  rfl
theorem u1_len' {t : D → TM D} : ∀ (ds : List D) (P : D → Prop) (E : XP), u1 t ds P E → ds.length + 1 = 2 := fun ds P E p => by
  rw [u1_len ds P E p]
theorem sf1 {n : Nat} {B : M Fl} {t : D → TM D} (f : D → Pat) (hf : ∀ y1 js w, f y1 js w = [.val y1] ++ List.replicate (n - 1) .no) (h : ∀ y1, SimB 0 (f y1) anyP B (t y1) flR (fun _ => anyP)) : SimF0 (defF none false n B) (u1 t) := sf_def fun ds P E p => by
  obtain ⟨y1, rfl, p⟩ := u1_inv p
  exact ⟨f y1, fun js w => hf y1 js w, (t y1), p, h y1⟩
theorem sfL1 {n : Nat} {B : M Fl} {t : D → TM D} (f : D → Pat) (hf : ∀ y1 js w, f y1 js w = [.val y1] ++ List.replicate (n - 1) .no) (h : ∀ y1, SimB 0 (f y1) anyP B (t y1) flL (fun _ => anyP)) : SimF0 (defF none true n B) (u1 t) := sf_defL fun ds P E p => by
  obtain ⟨y1, rfl, p⟩ := u1_inv p
  exact ⟨f y1, fun js w => hf y1 js w, (t y1), p, h y1⟩
theorem sfW1 {n cc : Nat} {B : M Fl} {t : D → TM D} (f : D → Pat) (hf : ∀ y1 js w, f y1 js w = [.val y1] ++ List.replicate (n - 1) .no) (hc : cc ≤ big) (h : ∀ y1, SimB cc (f y1) anyP B (t y1) flR (fun _ => anyP)) : SimF0 (defF none false n B) (u1 t) := sf_defW (c := cc) hc fun ds P E p => by
  obtain ⟨y1, rfl, p⟩ := u1_inv p
  exact ⟨f y1, fun js w => hf y1 js w, (t y1), p, h y1⟩
theorem sfI1_0 {n cc : Nat} {B : M Fl} {g : Pat} {t : D → TM D} (hg : ∀ js w, (g js w)[0]? = some (.cel .io w)) (f : D → Pat) (hf : ∀ y1 js w, f y1 js w = [.cel .io w, .val y1] ++ List.replicate (n - 2) .no) (h : ∀ y1, SimB cc (f y1) g B (t y1) flR (fun _ => g)) : SimFW cc 0 (defF (some 0) false n B) (u1 t) := sf_defI hg fun pre post P E hi p => by
  obtain ⟨y1, e, z⟩ := u1_inv p
  cases pre with
  | cons _ _ => cases hi
  | nil =>
    cases (show post = _ from e)
    exact ⟨f y1, fun js w => hf y1 js w, (t y1), z, h y1⟩
theorem sfIL1_0 {n cc : Nat} {B : M Fl} {g : Pat} {t : D → TM D} (hg : ∀ js w, (g js w)[0]? = some (.cel .io w)) (f : D → Pat) (hf : ∀ y1 js w, f y1 js w = [.cel .io w, .val y1] ++ List.replicate (n - 2) .no) (h : ∀ y1, SimB cc (f y1) g B (t y1) flL (fun _ => g)) : SimFW cc 0 (defF (some 0) true n B) (u1 t) := sf_defIL hg fun pre post P E hi p => by
  obtain ⟨y1, e, z⟩ := u1_inv p
  cases pre with
  | cons _ _ => cases hi
  | nil =>
    cases (show post = _ from e)
    exact ⟨f y1, fun js w => hf y1 js w, (t y1), z, h y1⟩
theorem sfI1_1 {n cc : Nat} {B : M Fl} {g : Pat} {t : D → TM D} (hg : ∀ js w, (g js w)[1]? = some (.cel .io w)) (f : D → Pat) (hf : ∀ y1 js w, f y1 js w = [.val y1, .cel .io w] ++ List.replicate (n - 2) .no) (h : ∀ y1, SimB cc (f y1) g B (t y1) flR (fun _ => g)) : SimFW cc 1 (defF (some 1) false n B) (u1 t) := sf_defI hg fun pre post P E hi p => by
  obtain ⟨y1, e, z⟩ := u1_inv p
  match pre, hi with
  | [p0], _ =>
    injection (show p0 :: post = _ from e) with e1 e2
    subst e2
    rw [e1]
    exact ⟨f y1, fun js w => hf y1 js w, (t y1), z, h y1⟩
theorem u2_inv {t : D → D → TM D} {P : D → Prop} {E : XP} : ∀ {ds : List D}, u2 t ds P E → ∃ y1 y2, ds = [y1, y2] ∧ t y1 y2 P E
  | [y1, y2], p => ⟨y1, y2, rfl, p⟩
  | [], p => p.elim
  | [_], p => p.elim
  | _ :: _ :: _ :: _, p => p.elim
theorem u2_len {t : D → D → TM D} : ∀ (ds : List D) (P : D → Prop) (E : XP), u2 t ds P E → ds.length = 2 := fun ds P E p => by
  obtain ⟨y1, y2, rfl, p⟩ := u2_inv p
  rfl
theorem u2_len' {t : D → D → TM D} : ∀ (ds : List D) (P : D → Prop) (E : XP), u2 t ds P E → ds.length + 1 = 3 := fun ds P E p => by
  rw [u2_len ds P E p]
theorem sf2 {n : Nat} {B : M Fl} {t : D → D → TM D} (f : D → D → Pat) (hf : ∀ y1 y2 js w, f y1 y2 js w = [.val y1, .val y2] ++ List.replicate (n - 2) .no) (h : ∀ y1 y2, SimB 0 (f y1 y2) anyP B (t y1 y2) flR (fun _ => anyP)) : SimF0 (defF none false n B) (u2 t) := sf_def fun ds P E p => by
  obtain ⟨y1, y2, rfl, p⟩ := u2_inv p
  exact ⟨f y1 y2, fun js w => hf y1 y2 js w, (t y1 y2), p, h y1 y2⟩
theorem sfL2 {n : Nat} {B : M Fl} {t : D → D → TM D} (f : D → D → Pat) (hf : ∀ y1 y2 js w, f y1 y2 js w = [.val y1, .val y2] ++ List.replicate (n - 2) .no) (h : ∀ y1 y2, SimB 0 (f y1 y2) anyP B (t y1 y2) flL (fun _ => anyP)) : SimF0 (defF none true n B) (u2 t) := sf_defL fun ds P E p => by
  obtain ⟨y1, y2, rfl, p⟩ := u2_inv p
  exact ⟨f y1 y2, fun js w => hf y1 y2 js w, (t y1 y2), p, h y1 y2⟩
theorem sfI2_0 {n cc : Nat} {B : M Fl} {g : Pat} {t : D → D → TM D} (hg : ∀ js w, (g js w)[0]? = some (.cel .io w)) (f : D → D → Pat) (hf : ∀ y1 y2 js w, f y1 y2 js w = [.cel .io w, .val y1, .val y2] ++ List.replicate (n - 3) .no) (h : ∀ y1 y2, SimB cc (f y1 y2) g B (t y1 y2) flR (fun _ => g)) : SimFW cc 0 (defF (some 0) false n B) (u2 t) := sf_defI hg fun pre post P E hi p => by
  obtain ⟨y1, y2, e, z⟩ := u2_inv p
  cases pre with
  | cons _ _ => cases hi
  | nil =>
    cases (show post = _ from e)
    exact ⟨f y1 y2, fun js w => hf y1 y2 js w, (t y1 y2), z, h y1 y2⟩
theorem sfIL2_0 {n cc : Nat} {B : M Fl} {g : Pat} {t : D → D → TM D} (hg : ∀ js w, (g js w)[0]? = some (.cel .io w)) (f : D → D → Pat) (hf : ∀ y1 y2 js w, f y1 y2 js w = [.cel .io w, .val y1, .val y2] ++ List.replicate (n - 3) .no) (h : ∀ y1 y2, SimB cc (f y1 y2) g B (t y1 y2) flL (fun _ => g)) : SimFW cc 0 (defF (some 0) true n B) (u2 t) := sf_defIL hg fun pre post P E hi p => by
  obtain ⟨y1, y2, e, z⟩ := u2_inv p
  cases pre with
  | cons _ _ => cases hi
  | nil =>
    cases (show post = _ from e)
    exact ⟨f y1 y2, fun js w => hf y1 y2 js w, (t y1 y2), z, h y1 y2⟩
theorem sfI2_1 {n cc : Nat} {B : M Fl} {g : Pat} {t : D → D → TM D} (hg : ∀ js w, (g js w)[1]? = some (.cel .io w)) (f : D → D → Pat) (hf : ∀ y1 y2 js w, f y1 y2 js w = [.val y1, .cel .io w, .val y2] ++ List.replicate (n - 3) .no) (h : ∀ y1 y2, SimB cc (f y1 y2) g B (t y1 y2) flR (fun _ => g)) : SimFW cc 1 (defF (some 1) false n B) (u2 t) := sf_defI hg fun pre post P E hi p => by
  obtain ⟨y1, y2, e, z⟩ := u2_inv p
  match pre, hi with
  | [p0], _ =>
    injection (show p0 :: post = _ from e) with e1 e2
    subst e2
    rw [e1]
    exact ⟨f y1 y2, fun js w => hf y1 y2 js w, (t y1 y2), z, h y1 y2⟩
theorem u3_inv {t : D → D → D → TM D} {P : D → Prop} {E : XP} : ∀ {ds : List D}, u3 t ds P E → ∃ y1 y2 y3, ds = [y1, y2, y3] ∧ t y1 y2 y3 P E
  | [y1, y2, y3], p => ⟨y1, y2, y3, rfl, p⟩
  | [], p => p.elim
  | [_], p => p.elim
  | [_, _], p => p.elim
  | _ :: _ :: _ :: _ :: _, p => p.elim
theorem u3_len {t : D → D → D → TM D} : ∀ (ds : List D) (P : D → Prop) (E : XP), u3 t ds P E → ds.length = 3 := fun ds P E p => by
  obtain ⟨y1, y2, y3, rfl, p⟩ := u3_inv p
  rfl
theorem u3_len' {t : D → D → D → TM D} : ∀ (ds : List D) (P : D → Prop) (E : XP), u3 t ds P E → ds.length + 1 = 4 := fun ds P E p => by
  rw [u3_len ds P E p]
theorem sf3 {n : Nat} {B : M Fl} {t : D → D → D → TM D} (f : D → D → D → Pat) (hf : ∀ y1 y2 y3 js w, f y1 y2 y3 js w = [.val y1, .val y2, .val y3] ++ List.replicate (n - 3) .no) (h : ∀ y1 y2 y3, SimB 0 (f y1 y2 y3) anyP B (t y1 y2 y3) flR (fun _ => anyP)) : SimF0 (defF none false n B) (u3 t) := sf_def fun ds P E p => by
  obtain ⟨y1, y2, y3, rfl, p⟩ := u3_inv p
  exact ⟨f y1 y2 y3, fun js w => hf y1 y2 y3 js w, (t y1 y2 y3), p, h y1 y2 y3⟩
theorem sfL3 {n : Nat} {B : M Fl} {t : D → D → D → TM D} (f : D → D → D → Pat) (hf : ∀ y1 y2 y3 js w, f y1 y2 y3 js w = [.val y1, .val y2, .val y3] ++ List.replicate (n - 3) .no) (h : ∀ y1 y2 y3, SimB 0 (f y1 y2 y3) anyP B (t y1 y2 y3) flL (fun _ => anyP)) : SimF0 (defF none true n B) (u3 t) := sf_defL fun ds P E p => by
  obtain ⟨y1, y2, y3, rfl, p⟩ := u3_inv p
  exact ⟨f y1 y2 y3, fun js w => hf y1 y2 y3 js w, (t y1 y2 y3), p, h y1 y2 y3⟩
theorem sfI3_0 {n cc : Nat} {B : M Fl} {g : Pat} {t : D → D → D → TM D} (hg : ∀ js w, (g js w)[0]? = some (.cel .io w)) (f : D → D → D → Pat) (hf : ∀ y1 y2 y3 js w, f y1 y2 y3 js w = [.cel .io w, .val y1, .val y2, .val y3] ++ List.replicate (n - 4) .no) (h : ∀ y1 y2 y3, SimB cc (f y1 y2 y3) g B (t y1 y2 y3) flR (fun _ => g)) : SimFW cc 0 (defF (some 0) false n B) (u3 t) := sf_defI hg fun pre post P E hi p => by
  obtain ⟨y1, y2, y3, e, z⟩ := u3_inv p
  cases pre with
  | cons _ _ => cases hi
  | nil =>
    cases (show post = _ from e)
    exact ⟨f y1 y2 y3, fun js w => hf y1 y2 y3 js w, (t y1 y2 y3), z, h y1 y2 y3⟩
theorem sfIL3_0 {n cc : Nat} {B : M Fl} {g : Pat} {t : D → D → D → TM D} (hg : ∀ js w, (g js w)[0]? = some (.cel .io w)) (f : D → D → D → Pat) (hf : ∀ y1 y2 y3 js w, f y1 y2 y3 js w = [.cel .io w, .val y1, .val y2, .val y3] ++ List.replicate (n - 4) .no) (h : ∀ y1 y2 y3, SimB cc (f y1 y2 y3) g B (t y1 y2 y3) flL (fun _ => g)) : SimFW cc 0 (defF (some 0) true n B) (u3 t) := sf_defIL hg fun pre post P E hi p => by
  obtain ⟨y1, y2, y3, e, z⟩ := u3_inv p
  cases pre with
  | cons _ _ => cases hi
  | nil =>
    cases (show post = _ from e)
    exact ⟨f y1 y2 y3, fun js w => hf y1 y2 y3 js w, (t y1 y2 y3), z, h y1 y2 y3⟩
theorem sfI3_1 {n cc : Nat} {B : M Fl} {g : Pat} {t : D → D → D → TM D} (hg : ∀ js w, (g js w)[1]? = some (.cel .io w)) (f : D → D → D → Pat) (hf : ∀ y1 y2 y3 js w, f y1 y2 y3 js w = [.val y1, .cel .io w, .val y2, .val y3] ++ List.replicate (n - 4) .no) (h : ∀ y1 y2 y3, SimB cc (f y1 y2 y3) g B (t y1 y2 y3) flR (fun _ => g)) : SimFW cc 1 (defF (some 1) false n B) (u3 t) := sf_defI hg fun pre post P E hi p => by
  obtain ⟨y1, y2, y3, e, z⟩ := u3_inv p
  match pre, hi with
  | [p0], _ =>
    injection (show p0 :: post = _ from e) with e1 e2
    subst e2
    rw [e1]
    exact ⟨f y1 y2 y3, fun js w => hf y1 y2 y3 js w, (t y1 y2 y3), z, h y1 y2 y3⟩
theorem u4_inv {t : D → D → D → D → TM D} {P : D → Prop} {E : XP} : ∀ {ds : List D}, u4 t ds P E → ∃ y1 y2 y3 y4, ds = [y1, y2, y3, y4] ∧ t y1 y2 y3 y4 P E
  | [y1, y2, y3, y4], p => ⟨y1, y2, y3, y4, rfl, p⟩
  | [], p => p.elim
  | [_], p => p.elim
  | [_, _], p => p.elim
  | [_, _, _], p => p.elim
  | _ :: _ :: _ :: _ :: _ :: _, p => p.elim
theorem u4_len {t : D → D → D → D → TM D} : ∀ (ds : List D) (P : D → Prop) (E : XP), u4 t ds P E → ds.length = 4 := fun ds P E p => by
  obtain ⟨y1, y2, y3, y4, rfl, p⟩ := u4_inv p
  rfl
theorem u4_len' {t : D → D → D → D → TM D} : ∀ (ds : List D) (P : D → Prop) (E : XP), u4 t ds P E → ds.length + 1 = 5 := fun ds P E p => by
  rw [u4_len ds P E p]
theorem sf4 {n : Nat} {B : M Fl} {t : D → D → D → D → TM D} (f : D → D → D → D → Pat) (hf : ∀ y1 y2 y3 y4 js w, f y1 y2 y3 y4 js w = [.val y1, .val y2, .val y3, .val y4] ++ List.replicate (n - 4) .no) (h : ∀ y1 y2 y3 y4, SimB 0 (f y1 y2 y3 y4) anyP B (t y1 y2 y3 y4) flR (fun _ => anyP)) : SimF0 (defF none false n B) (u4 t) := sf_def fun ds P E p => by
  obtain ⟨y1, y2, y3, y4, rfl, p⟩ := u4_inv p
  exact ⟨f y1 y2 y3 y4, fun js w => hf y1 y2 y3 y4 js w, (t y1 y2 y3 y4), p, h y1 y2 y3 y4⟩
theorem sfL4 {n : Nat} {B : M Fl} {t : D → D → D → D → TM D} (f : D → D → D → D → Pat) (hf : ∀ y1 y2 y3 y4 js w, f y1 y2 y3 y4 js w = [.val y1, .val y2, .val y3, .val y4] ++ List.replicate (n - 4) .no) (h : ∀ y1 y2 y3 y4, SimB 0 (f y1 y2 y3 y4) anyP B (t y1 y2 y3 y4) flL (fun _ => anyP)) : SimF0 (defF none true n B) (u4 t) := sf_defL fun ds P E p => by
  obtain ⟨y1, y2, y3, y4, rfl, p⟩ := u4_inv p
  exact ⟨f y1 y2 y3 y4, fun js w => hf y1 y2 y3 y4 js w, (t y1 y2 y3 y4), p, h y1 y2 y3 y4⟩
theorem sfI4_0 {n cc : Nat} {B : M Fl} {g : Pat} {t : D → D → D → D → TM D} (hg : ∀ js w, (g js w)[0]? = some (.cel .io w)) (f : D → D → D → D → Pat) (hf : ∀ y1 y2 y3 y4 js w, f y1 y2 y3 y4 js w = [.cel .io w, .val y1, .val y2, .val y3, .val y4] ++ List.replicate (n - 5) .no) (h : ∀ y1 y2 y3 y4, SimB cc (f y1 y2 y3 y4) g B (t y1 y2 y3 y4) flR (fun _ => g)) : SimFW cc 0 (defF (some 0) false n B) (u4 t) := sf_defI hg fun pre post P E hi p => by
  obtain ⟨y1, y2, y3, y4, e, z⟩ := u4_inv p
  cases pre with
  | cons _ _ => cases hi
  | nil =>
    cases (show post = _ from e)
    exact ⟨f y1 y2 y3 y4, fun js w => hf y1 y2 y3 y4 js w, (t y1 y2 y3 y4), z, h y1 y2 y3 y4⟩
theorem sfI4_1 {n cc : Nat} {B : M Fl} {g : Pat} {t : D → D → D → D → TM D} (hg : ∀ js w, (g js w)[1]? = some (.cel .io w)) (f : D → D → D → D → Pat) (hf : ∀ y1 y2 y3 y4 js w, f y1 y2 y3 y4 js w = [.val y1, .cel .io w, .val y2, .val y3, .val y4] ++ List.replicate (n - 5) .no) (h : ∀ y1 y2 y3 y4, SimB cc (f y1 y2 y3 y4) g B (t y1 y2 y3 y4) flR (fun _ => g)) : SimFW cc 1 (defF (some 1) false n B) (u4 t) := sf_defI hg fun pre post P E hi p => by
  obtain ⟨y1, y2, y3, y4, e, z⟩ := u4_inv p
  match pre, hi with
  | [p0], _ =>
    injection (show p0 :: post = _ from e) with e1 e2
    subst e2
    rw [e1]
    exact ⟨f y1 y2 y3 y4, fun js w => hf y1 y2 y3 y4 js w, (t y1 y2 y3 y4), z, h y1 y2 y3 y4⟩
theorem u5_inv {t : D → D → D → D → D → TM D} {P : D → Prop} {E : XP} : ∀ {ds : List D}, u5 t ds P E → ∃ y1 y2 y3 y4 y5, ds = [y1, y2, y3, y4, y5] ∧ t y1 y2 y3 y4 y5 P E
  | [y1, y2, y3, y4, y5], p => ⟨y1, y2, y3, y4, y5, rfl, p⟩
  | [], p => p.elim
  | [_], p => p.elim
  | [_, _], p => p.elim
  | [_, _, _], p => p.elim
  | [_, _, _, _], p => p.elim
  | _ :: _ :: _ :: _ :: _ :: _ :: _, p => p.elim
theorem u5_len {t : D → D → D → D → D → TM D} : ∀ (ds : List D) (P : D → Prop) (E : XP), u5 t ds P E → ds.length = 5 := fun ds P E p => by
  obtain ⟨y1, y2, y3, y4, y5, rfl, p⟩ := u5_inv p
  rfl
theorem u5_len' {t : D → D → D → D → D → TM D} : ∀ (ds : List D) (P : D → Prop) (E : XP), u5 t ds P E → ds.length + 1 = 6 := fun ds P E p => by
  rw [u5_len ds P E p]
theorem sf5 {n : Nat} {B : M Fl} {t : D → D → D → D → D → TM D} (f : D → D → D → D → D → Pat) (hf : ∀ y1 y2 y3 y4 y5 js w, f y1 y2 y3 y4 y5 js w = [.val y1, .val y2, .val y3, .val y4, .val y5] ++ List.replicate (n - 5) .no) (h : ∀ y1 y2 y3 y4 y5, SimB 0 (f y1 y2 y3 y4 y5) anyP B (t y1 y2 y3 y4 y5) flR (fun _ => anyP)) : SimF0 (defF none false n B) (u5 t) := sf_def fun ds P E p => by
  obtain ⟨y1, y2, y3, y4, y5, rfl, p⟩ := u5_inv p
  exact ⟨f y1 y2 y3 y4 y5, fun js w => hf y1 y2 y3 y4 y5 js w, (t y1 y2 y3 y4 y5), p, h y1 y2 y3 y4 y5⟩
theorem sfL5 {n : Nat} {B : M Fl} {t : D → D → D → D → D → TM D} (f : D → D → D → D → D → Pat) (hf : ∀ y1 y2 y3 y4 y5 js w, f y1 y2 y3 y4 y5 js w = [.val y1, .val y2, .val y3, .val y4, .val y5] ++ List.replicate (n - 5) .no) (h : ∀ y1 y2 y3 y4 y5, SimB 0 (f y1 y2 y3 y4 y5) anyP B (t y1 y2 y3 y4 y5) flL (fun _ => anyP)) : SimF0 (defF none true n B) (u5 t) := sf_defL fun ds P E p => by
  obtain ⟨y1, y2, y3, y4, y5, rfl, p⟩ := u5_inv p
  exact ⟨f y1 y2 y3 y4 y5, fun js w => hf y1 y2 y3 y4 y5 js w, (t y1 y2 y3 y4 y5), p, h y1 y2 y3 y4 y5⟩
theorem sfI5_0 {n cc : Nat} {B : M Fl} {g : Pat} {t : D → D → D → D → D → TM D} (hg : ∀ js w, (g js w)[0]? = some (.cel .io w)) (f : D → D → D → D → D → Pat) (hf : ∀ y1 y2 y3 y4 y5 js w, f y1 y2 y3 y4 y5 js w = [.cel .io w, .val y1, .val y2, .val y3, .val y4, .val y5] ++ List.replicate (n - 6) .no) (h : ∀ y1 y2 y3 y4 y5, SimB cc (f y1 y2 y3 y4 y5) g B (t y1 y2 y3 y4 y5) flR (fun _ => g)) : SimFW cc 0 (defF (some 0) false n B) (u5 t) := sf_defI hg fun pre post P E hi p => by
  obtain ⟨y1, y2, y3, y4, y5, e, z⟩ := u5_inv p
  cases pre with
  | cons _ _ => cases hi
  | nil =>
    cases (show post = _ from e)
    exact ⟨f y1 y2 y3 y4 y5, fun js w => hf y1 y2 y3 y4 y5 js w, (t y1 y2 y3 y4 y5), z, h y1 y2 y3 y4 y5⟩
theorem sfI5_1 {n cc : Nat} {B : M Fl} {g : Pat} {t : D → D → D → D → D → TM D} (hg : ∀ js w, (g js w)[1]? = some (.cel .io w)) (f : D → D → D → D → D → Pat) (hf : ∀ y1 y2 y3 y4 y5 js w, f y1 y2 y3 y4 y5 js w = [.val y1, .cel .io w, .val y2, .val y3, .val y4, .val y5] ++ List.replicate (n - 6) .no) (h : ∀ y1 y2 y3 y4 y5, SimB cc (f y1 y2 y3 y4 y5) g B (t y1 y2 y3 y4 y5) flR (fun _ => g)) : SimFW cc 1 (defF (some 1) false n B) (u5 t) := sf_defI hg fun pre post P E hi p => by
  obtain ⟨y1, y2, y3, y4, y5, e, z⟩ := u5_inv p
  match pre, hi with
  | [p0], _ =>
    injection (show p0 :: post = _ from e) with e1 e2
    subst e2
    rw [e1]
    exact ⟨f y1 y2 y3 y4 y5, fun js w => hf y1 y2 y3 y4 y5 js w, (t y1 y2 y3 y4 y5), z, h y1 y2 y3 y4 y5⟩
theorem u6_inv {t : D → D → D → D → D → D → TM D} {P : D → Prop} {E : XP} : ∀ {ds : List D}, u6 t ds P E → ∃ y1 y2 y3 y4 y5 y6, ds = [y1, y2, y3, y4, y5, y6] ∧ t y1 y2 y3 y4 y5 y6 P E
  | [y1, y2, y3, y4, y5, y6], p => ⟨y1, y2, y3, y4, y5, y6, rfl, p⟩
  | [], p => p.elim
  | [_], p => p.elim
  | [_, _], p => p.elim
  | [_, _, _], p => p.elim
  | [_, _, _, _], p => p.elim
  | [_, _, _, _, _], p => p.elim
  | _ :: _ :: _ :: _ :: _ :: _ :: _ :: _, p => p.elim
theorem u6_len {t : D → D → D → D → D → D → TM D} : ∀ (ds : List D) (P : D → Prop) (E : XP), u6 t ds P E → ds.length = 6 := fun ds P E p => by
  obtain ⟨y1, y2, y3, y4, y5, y6, rfl, p⟩ := u6_inv p
  rfl
theorem u6_len' {t : D → D → D → D → D → D → TM D} : ∀ (ds : List D) (P : D → Prop) (E : XP), u6 t ds P E → ds.length + 1 = 7 := fun ds P E p => by
  rw [u6_len ds P E p]
theorem sf6 {n : Nat} {B : M Fl} {t : D → D → D → D → D → D → TM D} (f : D → D → D → D → D → D → Pat) (hf : ∀ y1 y2 y3 y4 y5 y6 js w, f y1 y2 y3 y4 y5 y6 js w = [.val y1, .val y2, .val y3, .val y4, .val y5, .val y6] ++ List.replicate (n - 6) .no) (h : ∀ y1 y2 y3 y4 y5 y6, SimB 0 (f y1 y2 y3 y4 y5 y6) anyP B (t y1 y2 y3 y4 y5 y6) flR (fun _ => anyP)) : SimF0 (defF none false n B) (u6 t) := sf_def fun ds P E p => by
  obtain ⟨y1, y2, y3, y4, y5, y6, rfl, p⟩ := u6_inv p
  exact ⟨f y1 y2 y3 y4 y5 y6, fun js w => hf y1 y2 y3 y4 y5 y6 js w, (t y1 y2 y3 y4 y5 y6), p, h y1 y2 y3 y4 y5 y6⟩
theorem u7_inv {t : D → D → D → D → D → D → D → TM D} {P : D → Prop} {E : XP} : ∀ {ds : List D}, u7 t ds P E → ∃ y1 y2 y3 y4 y5 y6 y7, ds = [y1, y2, y3, y4, y5, y6, y7] ∧ t y1 y2 y3 y4 y5 y6 y7 P E
  | [y1, y2, y3, y4, y5, y6, y7], p => ⟨y1, y2, y3, y4, y5, y6, y7, rfl, p⟩
  | [], p => p.elim
  | [_], p => p.elim
  | [_, _], p => p.elim
  | [_, _, _], p => p.elim
  | [_, _, _, _], p => p.elim
  | [_, _, _, _, _], p => p.elim
  | [_, _, _, _, _, _], p => p.elim
  | _ :: _ :: _ :: _ :: _ :: _ :: _ :: _ :: _, p => p.elim
theorem u7_len {t : D → D → D → D → D → D → D → TM D} : ∀ (ds : List D) (P : D → Prop) (E : XP), u7 t ds P E → ds.length = 7 := fun ds P E p => by
  obtain ⟨y1, y2, y3, y4, y5, y6, y7, rfl, p⟩ := u7_inv p
  rfl
theorem u7_len' {t : D → D → D → D → D → D → D → TM D} : ∀ (ds : List D) (P : D → Prop) (E : XP), u7 t ds P E → ds.length + 1 = 8 := fun ds P E p => by
  rw [u7_len ds P E p]
theorem sf7 {n : Nat} {B : M Fl} {t : D → D → D → D → D → D → D → TM D} (f : D → D → D → D → D → D → D → Pat) (hf : ∀ y1 y2 y3 y4 y5 y6 y7 js w, f y1 y2 y3 y4 y5 y6 y7 js w = [.val y1, .val y2, .val y3, .val y4, .val y5, .val y6, .val y7] ++ List.replicate (n - 7) .no) (h : ∀ y1 y2 y3 y4 y5 y6 y7, SimB 0 (f y1 y2 y3 y4 y5 y6 y7) anyP B (t y1 y2 y3 y4 y5 y6 y7) flR (fun _ => anyP)) : SimF0 (defF none false n B) (u7 t) := sf_def fun ds P E p => by
  obtain ⟨y1, y2, y3, y4, y5, y6, y7, rfl, p⟩ := u7_inv p
  exact ⟨f y1 y2 y3 y4 y5 y6 y7, fun js w => hf y1 y2 y3 y4 y5 y6 y7 js w, (t y1 y2 y3 y4 y5 y6 y7), p, h y1 y2 y3 y4 y5 y6 y7⟩
end FL
namespace FL
open PySem PySem.Spec L2
/-- n: how many stand there so far -/
def compA2 {σ τ : Type} (tg : D → TM σ) (tt : σ → TM Bool) (ti1 : σ → TM (List D)) (tg1 : σ → D → TM τ) (tt1 : σ → τ → TM Bool) (te : σ → τ → TM D) : List D → Nat → TM (List D)
  | [], _ => tp []
  | d :: ds, n => tb (tg d) fun u => tb (tt u) fun k => if k then tb (ti1 u) fun es => tA (n + es.length ≤ most) (tb (compL (tg1 u) (tt1 u) (te u) es) fun a => tb (compA2 tg tt ti1 tg1 tt1 te ds (n + a.length)) fun b => tp (a ++ b)) else compA2 tg tt ti1 tg1 tt1 te ds n
def compT2 {σ τ : Type} (it : TM (List D)) (tg : D → TM σ) (tt : σ → TM Bool) (ti1 : σ → TM (List D)) (tg1 : σ → D → TM τ) (tt1 : σ → τ → TM Bool) (te : σ → τ → TM D) : TM (List D) := tb it fun ds => tA (ds.length ≤ most) (tNX (compA2 tg tt ti1 tg1 tt1 te ds 0))
section
variable {υ ω : Type} {f g : Pat} {c c0 c1 c2 c3 c4 c5 c6 : Nat}
theorem comp2_run {vs vs1 : List Nat} {gt gt1 : D → M Unit} {mt mt1 : M Bool} {mi : M (List D)} {e : M D} {tg : D → TM υ} {ut : υ → TM Bool} {ui : υ → TM (List D)} {tg1 : υ → D → TM ω} {ut1 : υ → ω → TM Bool} {ue : υ → ω → TM D} {fw : Pat} {f1 fw1 : υ → Pat} {f2 : υ → ω → Pat}
    (hg : ∀ d, SimG c1 fw anyP (gt d) (tg d) f1) (ht : ∀ u, SimM c2 (f1 u) anyP mt (ut u)) (hi : ∀ u, SimM c3 (f1 u) anyP mi (ui u))
    (hg1 : ∀ u d, SimG c4 (fw1 u) anyP (gt1 d) (tg1 u d) (f2 u)) (ht1 : ∀ u v, SimM c5 (f2 u v) anyP mt1 (ut1 u v)) (he : ∀ u v, SimM c6 (f2 u v) anyP e (ue u v))
    (hb : ∀ u js ds, ∃ js', wipeE (f1 u js ds) vs = fw js' ds) (hw : ∀ u js ds, ∃ js', wipeE (f1 u js ds) vs1 = fw1 u js' ds) (hb1 : ∀ u v js ds, ∃ js', wipeE (f2 u v js ds) vs1 = fw1 u js' ds) (hb2 : ∀ u js ds, ∃ js', wipeE (fw1 u js ds) vs = fw js' ds) :
    ∀ (ds acc : List D) (n k : Nat) (r : List Ent) (P : List D → Prop), Got fw k r → k + (c1 + c2 + c3 + (c4 + c5 + c6) * most) * ds.length ≤ big → acc.length = n → compA2 tg ut ui tg1 ut1 ue ds n P (fun _ _ => False) →
      Wx (compD2 vs vs1 gt mt mi gt1 mt1 e ds acc) r (fun l r => Got fw (k + (c1 + c2 + c3 + (c4 + c5 + c6) * most) * ds.length) r ∧ ∃ l', l = acc ++ l' ∧ P l') fun _ _ _ => False
  | [], acc, n, k, r, P, q, l, hl, p => ⟨q, [], (List.append_nil _).symm, p⟩
  | d :: ds, acc, n, k, r, P, q, l, hl, p => by
    rw [List.length_cons, Nat.mul_succ] at l ⊢
    have hC : ∀ x, x ≤ most → (c4 + c5 + c6) * x ≤ (c4 + c5 + c6) * most := fun x hx => Nat.mul_le_mul_left _ hx
    generalize hC2 : (c4 + c5 + c6) * most = B at *
    generalize hn : (c1 + c2 + c3 + B) * ds.length = m at l ⊢
    have nx : ∀ {α : Type} {m : M α} {r : List Ent} {Q Q' : α → List Ent → Prop} {E : Str → Option (Str × D) → List Ent → Prop}, Wx m r Q E → (∀ c p r, ¬ E c p r) → (∀ a r, Q a r → Q' a r) → Wx (noX m) r Q' fun _ _ _ => False := fun {α m r Q Q' E} h hE hQ => by
      unfold Wx at *
      unfold noX
      cases e : m r with
      | ok a o => rw [e] at h; exact hQ _ _ h
      | exc c p o => rw [e] at h; exact (hE _ _ _ h).elim
      | bad => rw [e] at h; exact h.elim
    refine wx_B (nx (hg d k r _ (fun _ _ => False) q (by omega) p) (fun _ _ _ z => z.2) fun _ r1 ⟨u, q1, p1⟩ => ?_)
    refine wx_B (nx (ht u (k + c1) r1 _ (fun _ _ => False) q1 (by omega) p1) (fun _ _ _ z => z.2) fun kk r2 ⟨q2, p2⟩ => ?_)
    cases kk with
    | true =>
      refine wx_B (nx (hi u (k + c1 + c2) r2 _ (fun _ _ => False) q2 (by omega) p2) (fun _ _ _ z => z.2) fun es r3 ⟨⟨js, w, hw3, e3⟩, p3, p4⟩ => ?_)
      obtain ⟨js', e4⟩ := hw u js w
      have hes : es.length ≤ most := by omega
      have hCe := hC es.length hes
      have run := comp_run (vs := vs1) (hg1 u) (ht1 u) (he u) (hb1 u) es acc (k + c1 + c2 + c3) (wipeE r3 vs1) _ ⟨js', w, hw3.up (by omega), by rw [e3, e4]⟩ (by omega) (by omega) p4
      show Wx (innD vs vs1 gt1 mt1 e _ es acc) (wipeE r3 vs1) _ _
      unfold Wx innD at *
      cases e6 : compD vs1 gt1 mt1 e es acc (wipeE r3 vs1) with
      | exc c p o => rw [e6] at run; exact run.elim
      | bad => rw [e6] at run; exact run.elim
      | ok a o =>
        rw [e6] at run
        obtain ⟨⟨js5, w5, hw5, e5⟩, l', e7, h2⟩ := run
        obtain ⟨js7, e8⟩ := hb2 u js5 w5
        subst e5 e7
        have := comp2_run hg ht hi hg1 ht1 he hb hw hb1 hb2 ds (acc ++ l') (n + l'.length) (k + (c1 + c2 + c3 + B)) (wipeE (fw1 u js5 w5) vs) _ ⟨js7, w5, hw5.up (by omega), e8⟩ (by rw [hC2, hn]; omega) (by rw [List.length_append, hl]) h2
        rw [hC2, hn] at this
        have e5 : k + (c1 + c2 + c3 + B) + m = k + (m + (c1 + c2 + c3 + B)) := by omega
        rw [e5] at this
        unfold Wx at this
        simp only
        cases e9 : compD2 vs vs1 gt mt mi gt1 mt1 e ds (acc ++ l') (wipeE (fw1 u js5 w5) vs) with
        | exc c p o => rw [e9] at this; exact this.elim
        | bad => rw [e9] at this; exact this.elim
        | ok a o =>
          rw [e9] at this
          obtain ⟨h1, l2, e10, h3⟩ := this
          exact ⟨h1, l' ++ l2, by rw [e10, List.append_assoc], h3⟩
    | false =>
      obtain ⟨js, w, hw3, e3⟩ := q2
      obtain ⟨js', e4⟩ := hb u js w
      have := comp2_run hg ht hi hg1 ht1 he hb hw hb1 hb2 ds acc n (k + (c1 + c2 + c3 + B)) (wipeE r2 vs) _ ⟨js', w, hw3.up (by omega), by rw [e3, e4]⟩ (by rw [hC2, hn]; omega) hl p2
      rw [hC2, hn] at this
      have e5 : k + (c1 + c2 + c3 + B) + m = k + (m + (c1 + c2 + c3 + B)) := by omega
      rw [e5] at this
      unfold Wx at this ⊢
      exact this
theorem sm_comp2 {vs vs1 : List Nat} {it : M (List D)} {ti : TM (List D)} {gt gt1 : D → M Unit} {mt mt1 : M Bool} {mi : M (List D)} {e : M D} {tg : D → TM υ} {ut : υ → TM Bool} {ui : υ → TM (List D)} {tg1 : υ → D → TM ω} {ut1 : υ → ω → TM Bool} {ue : υ → ω → TM D} (fw : Pat) (f1 fw1 : υ → Pat) (f2 : υ → ω → Pat) (h0 : SimM c0 f g it ti)
    (hg : ∀ d, SimG c1 fw anyP (gt d) (tg d) f1) (ht : ∀ u, SimM c2 (f1 u) anyP mt (ut u)) (hi : ∀ u, SimM c3 (f1 u) anyP mi (ui u))
    (hg1 : ∀ u d, SimG c4 (fw1 u) anyP (gt1 d) (tg1 u d) (f2 u)) (ht1 : ∀ u v, SimM c5 (f2 u v) anyP mt1 (ut1 u v)) (he : ∀ u v, SimM c6 (f2 u v) anyP e (ue u v))
    (hn : ∀ js ds, noCel vs (f js ds) = true) (hw0 : ∀ js ds, wipeE (f js ds) vs = fw js ds)
    (hb : ∀ u js ds, ∃ js', wipeE (f1 u js ds) vs = fw js' ds) (hw : ∀ u js ds, ∃ js', wipeE (f1 u js ds) vs1 = fw1 u js' ds) (hb1 : ∀ u v js ds, ∃ js', wipeE (f2 u v js ds) vs1 = fw1 u js' ds) (hb2 : ∀ u js ds, ∃ js', wipeE (fw1 u js ds) vs = fw js' ds)
    (hp : ∀ js0 ds0 js ds, ∃ js', putBack (f js0 ds0) (fw js ds) vs = f js' ds) (hc : c0 + (c1 + c2 + c3 + (c4 + c5 + c6) * most) * most ≤ c) : SimM c f g (lComp2 vs vs1 it gt mt mi gt1 mt1 e) (compT2 ti tg ut ui tg1 ut1 ue) := fun k r P E q l p => by
  refine wx_B ((h0 k r _ E q (by omega) p).imp (fun ds r1 ⟨⟨js, w, hw', e1⟩, p0, p1⟩ => ?_) fun _ _ _ ⟨a, b⟩ => ⟨a.up (by omega), b⟩)
  have hl : (c1 + c2 + c3 + (c4 + c5 + c6) * most) * ds.length ≤ (c1 + c2 + c3 + (c4 + c5 + c6) * most) * most := Nat.mul_le_mul_left _ p0
  generalize hN : (c1 + c2 + c3 + (c4 + c5 + c6) * most) * most = n at hl hc
  subst e1
  have := comp2_run (vs := vs) (vs1 := vs1) hg ht hi hg1 ht1 he hb hw hb1 hb2 ds [] 0 (k + c0) (fw js w) P ⟨js, w, hw', rfl⟩ (by omega) rfl p1
  unfold Wx at this ⊢
  simp only [hn, if_true, hw0]
  cases e6 : compD2 vs vs1 gt mt mi gt1 mt1 e ds [] (fw js w) with
  | ok a o =>
    rw [e6] at this
    obtain ⟨⟨js2, w2, hw2, e7⟩, l', e8, h2⟩ := this
    obtain ⟨js3, e9⟩ := hp js w js2 w2
    subst e7
    rw [List.nil_append] at e8
    subst e8
    exact ⟨⟨js3, w2, hw2.up (by omega), e9⟩, h2⟩
  | exc c p o => rw [e6] at this; exact this.elim
  | bad => rw [e6] at this; exact this.elim
end
end FL
/-! TL5: terms for starred items, insert, a fresh well handed on. -/
namespace FL
open PySem PySem.Spec L2
def tSplat (a : TM D) (r : TM (List D)) : TM (List D) := tb a fun d => tb (tO (rowD d)) fun xs => tb r fun ds => tp (xs ++ ds)
def tIns (xs : List D) (ma mb : TM D) : TM (List D) := tb ma fun i => tb mb fun d => tO (insC i d xs)
section
variable {α β τ σ υ : Type} {f g : Pat} {c c1 c2 c3 c4 : Nat} {fl : τ → Fl → Prop} {pat : τ → Pat} {t : TM τ} {a : M D} {ta : TM D} {m : M (List D)} {tm : TM (List D)}
theorem sm_star (h1 : SimM c1 f g a ta) (h2 : SimM c2 f g m tm) (hc : c1 + c2 ≤ c) : SimM c f g (dStar a m) (tSplat ta tm) :=
  sm_bind h1 (fun _ => sm_bind (c1 := 0) (c2 := c2) sm_O (fun _ => sm_bind (c2 := 0) h2 (fun _ => sm_P) (Nat.le_refl _)) (by omega)) hc
theorem sm_starz (h1 : SimM 0 f g a ta) (h2 : SimM 0 f g m tm) : SimM 0 f g (dStar a m) (tSplat ta tm) := sm_star h1 h2 (Nat.le_refl 0)
theorem sb_ins {j : Nat} {kk : CK} {xs : List D} {ma mb : M D} {tma tmb : TM D} {r : M Fl} {u : List D → TM τ} (f2 : List D → Pat) (ha : SimM c1 f g ma tma) (hb : SimM c2 f g mb tmb) (h0 : ∀ js ds, (f js ds)[j]? = some (.cel kk xs)) (h1 : ∀ d js ds, (f js ds).set j (.cel kk d) = f2 d js ds) (h2 : ∀ d, SimB c3 (f2 d) g r (u d) fl pat) (hc : c1 + c2 + c3 ≤ c) :
    SimB c f g (sSeq (sIns j ma mb) r) (tb (tIns xs tma tmb) u) fl pat :=
  sb_seq (c1 := c1 + c2) (p1 := f2) (fun k r P E q l p => by
    obtain ⟨js, ds, w, rfl⟩ := q
    refine wx_B (wx_of (a := ()) (r' := f js ds) (by unfold hasC; rw [h0]) ?_)
    refine wx_B ((ha k _ _ E ⟨js, ds, w, rfl⟩ (by omega) p).imp (fun i r1 ⟨q1, p1⟩ => ?_) fun _ _ _ ⟨a, b⟩ => ⟨a.up (by omega), b⟩)
    refine wx_B ((hb (k + c1) _ _ E q1 (by omega) p1).imp (fun a r2 ⟨⟨js, ds, w, e⟩, es, p1, p2⟩ => ?_) fun _ _ _ ⟨a, b⟩ => ⟨a.up (by omega), b⟩)
    refine wx_B (wx_of (a := ()) (r' := r2.set j (.cel kk es)) (by unfold updc; rw [e, h0]; simp only; rw [p1]) ⟨_, rfl, ⟨js, ds, w.up (by omega), by rw [e, h1]⟩, p2⟩)) h2 hc
/-! a fresh well handed on -/
def SimN0 (c : Nat) (f g : Pat) (m : M (List PIt)) (t : TM (List D)) : Prop := ∀ (k : Nat) (r : List Ent) (P : List D → Prop) (E : XP), Got f k r → k + c ≤ big → t P E →
  Wx m r (fun is r' => ∃ ds, is = ds.map PIt.val ∧ Got f (k + c) r' ∧ P ds) fun x p r' => Got g (k + c) r' ∧ E x p
def SimN1 (c i : Nat) (f g : Pat) (m : M (List PIt)) (t : TM (List D)) : Prop := ∀ (k : Nat) (r : List Ent) (P : List D → Prop) (E : XP), Got f k r → k + c ≤ big → t P E →
  Wx m r (fun is r' => ∃ pre w post, is = pre.map PIt.val ++ .new w :: post.map PIt.val ∧ pre.length = i ∧ Wel 0 w ∧ Got f (k + c) r' ∧ P (pre ++ post)) fun x p r' => Got g (k + c) r' ∧ E x p
theorem sn_nil : SimN0 c f g (mP []) (tp []) := fun k r P E q l p => ⟨[], rfl, q.up (by omega), p⟩
theorem sn_val {n : M (List PIt)} (h1 : SimM c1 f g a ta) (h2 : SimN0 c2 f g n tm) (hc : c1 + c2 ≤ c) : SimN0 c f g (pVal a n) (tCons ta tm) := fun k r P E q l p => by
  refine wx_B ((h1 k r _ E q (by omega) p).imp (fun d r1 ⟨q1, p1⟩ => ?_) fun _ _ _ ⟨a, b⟩ => ⟨a.up (by omega), b⟩)
  refine wx_B ((h2 (k + c1) r1 _ E q1 (by omega) p1).imp (fun is r2 ⟨ds, e, q2, p2⟩ => ?_) fun _ _ _ ⟨a, b⟩ => ⟨a.up (by omega), b⟩)
  subst e
  exact ⟨d :: ds, rfl, q2.up (by omega), p2⟩
theorem sn_valj {i : Nat} {n : M (List PIt)} (h1 : SimM c1 f g a ta) (h2 : SimN1 c2 i f g n tm) (hc : c1 + c2 ≤ c) : SimN1 c (i + 1) f g (pVal a n) (tCons ta tm) := fun k r P E q l p => by
  refine wx_B ((h1 k r _ E q (by omega) p).imp (fun d r1 ⟨q1, p1⟩ => ?_) fun _ _ _ ⟨a, b⟩ => ⟨a.up (by omega), b⟩)
  refine wx_B ((h2 (k + c1) r1 _ E q1 (by omega) p1).imp (fun is r2 ⟨pre, w, post, e, e2, hw, q2, p2⟩ => ?_) fun _ _ _ ⟨a, b⟩ => ⟨a.up (by omega), b⟩)
  subst e
  exact ⟨d :: pre, w, post, rfl, by rw [List.length_cons, e2], hw, q2.up (by omega), p2⟩
theorem sn_new {np : Nat} {F : List Ent → R D} {tF : List D → TM Unit} {n : M (List PIt)} {tn : TM (List D)} (hF : SimWell F tF) (hn : ∀ ds P E, tF ds P E → ds.length = np) (h1 : SimM c1 f g m tm) (h2 : SimN0 c2 f g n tn) (hc : c1 + c2 ≤ c) :
    SimN1 c 0 f g (pNew (callL np F m) n) (tb (tb tm tF) fun _ => tn) := fun k r P E q l p => by
  refine wx_B (wx_B ((h1 k r _ E q (by omega) p).imp (fun ds r1 ⟨q1, p1⟩ => ?_) fun _ _ _ ⟨a, b⟩ => ⟨a.up (by omega), b⟩))
  have l1 := hn ds _ _ p1
  have := hF ds _ E p1
  unfold WxF at this
  unfold Wx
  simp only [l1, if_true]
  cases e2 : F (valsOf ds) with
  | ok d o =>
    rw [e2] at this
    obtain ⟨⟨es, rfl, hes⟩, p2⟩ := this
    refine wx_B ((h2 (k + c1) r1 _ E q1 (by omega) p2).imp (fun is r2 ⟨ds, e, q2, p2⟩ => ?_) fun _ _ _ ⟨a, b⟩ => ⟨a.up (by omega), b⟩)
    subst e
    exact ⟨[], es, ds, rfl, rfl, hes, q2.up (by omega), p2⟩
  | exc x p o => rw [e2] at this; exact this.elim
  | bad => rw [e2] at this; exact this.elim
theorem allP_of : ∀ ds : List D, allP (ds.map PIt.val) = some ds
  | [] => rfl
  | d :: ds => by simp only [List.map_cons, allP, allP_of ds, Option.map_some]
theorem splitP_of : ∀ (pre w post : List D), splitP (pre.map PIt.val ++ .new w :: post.map PIt.val) = some (pre, w, post)
  | [], w, post => by simp [splitP, allP_of]
  | d :: ds, w, post => by simp [splitP, splitP_of ds w post]
theorem sm_callN {np i : Nat} {F : List Ent → R D} {tF : List D → TM D} {n : M (List PIt)} {tn : TM (List D)} (hx : Wk f g) (hF : SimFW c2 i F tF) (hn : ∀ ds P E, tF ds P E → ds.length + 1 = np) (hb : c2 ≤ big) (h : SimN1 c i f g n tn) : SimM c f g (callN np i F n) (tb tn tF) := fun k r P E q l p => by
  refine wx_B ((h k r _ E q l p).imp (fun is r1 ⟨pre, w, post, e, e2, hw, q1, p1⟩ => ?_) fun _ _ _ z => z)
  subst e
  have h1 := hn _ P E p1
  have := hF 0 w pre post P E e2 hw (by omega) p1
  unfold WxF at this
  unfold Wx
  have hlen : (pre.map PIt.val ++ PIt.new w :: post.map PIt.val).length = np := by
    rw [← h1]; simp only [List.length_append, List.length_map, List.length_cons]; omega
  simp only [splitP_of, hlen, e2, and_self, decide_true, if_true]
  cases e : F (ioArgs pre w post) with
  | ok d o =>
    rw [e] at this
    obtain ⟨⟨w', h1, rfl⟩, p2⟩ := this
    exact ⟨q1, p2⟩
  | exc x pl o =>
    rw [e] at this
    obtain ⟨⟨w', h1, rfl⟩, p2⟩ := this
    exact ⟨q1.wk hx, p2⟩
  | bad => rw [e] at this; exact this.elim
end
end FL
/-! PL1: plain facts for terms of TM -/
namespace FL
open PySem PySem.Spec L2
section
variable {α β γ : Type}
@[simp] theorem p_tb (a : α) (f : α → TM β) : tb (tp a) f = f a := id rfl
@[simp] theorem p_tbb (m : TM α) (f : α → TM β) (g : β → TM γ) : tb (tb m f) g = tb m fun a => tb (f a) g := id rfl
@[simp] theorem p_tbr (m : TM α) : tb m (fun a => tp a) = m := id rfl
@[simp] theorem p_tO (a : α) : tO (some a) = tp a := tO_some a
@[simp] theorem p_NX (a : α) : tNX (tp a) = tp a := id rfl
@[simp] theorem p_tA (m : TM α) : tA True m = m := tA_true m trivial
@[simp] theorem p_tbA {p : Prop} (m : TM α) (f : α → TM β) : tb (tA p m) f = tA p (tb m f) := id rfl
@[simp] theorem p_NXA {p : Prop} (m : TM α) : tNX (tA p m) = tA p (tNX m) := id rfl
@[simp] theorem p_tbBad (f : α → TM β) : tb (tBad : TM α) f = tBad := id rfl
theorem p_ite {c : Prop} [Decidable c] (a b : TM α) (f : α → TM β) : tb (if c then a else b) f = if c then tb a f else tb b f := by split <;> rfl
@[simp] theorem x_2 (op : D → D → Option D) (a b : TM D) : t2 op a b = tb a fun d => tb b fun e => tO (op d e) := id rfl
@[simp] theorem x_1 (op : D → Option D) (a : TM D) : t1 op a = tb a fun d => tO (op d) := id rfl
@[simp] theorem x_and (a b : TM D) : tAnd a b = tb a fun d => tb (tO (truB d)) fun k => if k then b else tp d := id rfl
@[simp] theorem x_or (a b : TM D) : tOr a b = tb a fun d => tb (tO (truB d)) fun k => if k then tp d else b := id rfl
@[simp] theorem x_not (a : TM D) : tNot a = tb a fun d => tb (tO (truB d)) fun k => tp (.bl (!k)) := id rfl
@[simp] theorem x_if (c : TM Bool) (a b : TM α) : tIf c a b = tb c fun k => if k then a else b := id rfl
@[simp] theorem x_chain (o o' : D → D → Option D) (a b c : TM D) : tChain o o' a b c = tb a fun d => tb b fun e => tb (tO (o d e)) fun z => tb (tO (unBl z)) fun k => if k then tb c fun g => tO (o' e g) else tp (.bl false) := id rfl
@[simp] theorem x_cons (a : TM D) (r : TM (List D)) : tCons a r = tb a fun d => tb r fun ds => tp (d :: ds) := id rfl
@[simp] theorem x_tup (m : TM (List D)) : tTup m = tb m fun ds => tA (ds.length ≤ most) (tp (.tup ds)) := id rfl
@[simp] theorem x_lst (m : TM (List D)) : tLst m = tb m fun ds => tA (ds.length ≤ most) (tp ds) := id rfl
@[simp] theorem x_fz (m : TM (List D)) : tFz m = tb m fun ds => tp (.lst ds) := id rfl
@[simp] theorem x_Bf (o : List D → Option α) (m : TM (List D)) : tBf o m = tb m fun ds => tO (o ds) := id rfl
@[simp] theorem x_int (m : TM D) : tInt m = tb m fun d => tb (tO (unInt d)) fun i => tp (some i) := id rfl
@[simp] theorem x_cut (a : TM D) (lo hi : TM (Option Int)) : tCut a lo hi = tb a fun d => tb lo fun l => tb hi fun h => tO (cutD d l h) := id rfl
@[simp] theorem x_row (m : TM D) : tRow m = tb m fun d => tO (rowD d) := id rfl
@[simp] theorem x_MT (m : TM D) : tMT m = tb m fun d => tO (unBl d) := id rfl
@[simp] theorem x_tru (m : TM D) : tTru m = tb m fun d => tO (truB d) := id rfl
@[simp] theorem x_ttAnd (a b : TM Bool) : ttAnd a b = tb a fun k => if k then b else tp false := id rfl
@[simp] theorem x_ttOr (a b : TM Bool) : ttOr a b = tb a fun k => if k then tp true else b := id rfl
@[simp] theorem x_ttNot (a : TM Bool) : ttNot a = tb a fun k => tp (!k) := id rfl
@[simp] theorem x_isT (ns : List String) (m : TM D) : tIsT ns m = tb m fun d => tO (isTB ns d) := id rfl
@[simp] theorem x_unL (m : TM D) : tUnL m = tb m fun d => tO (unL d) := id rfl
@[simp] theorem x_lend (ok : α → Bool) (m : TM α) : tLend ok m = tb m fun a => tA (ok a = true) (tp a) := id rfl
@[simp] theorem x_comp {σ : Type} (it : TM (List D)) (tg : D → TM σ) (tt : σ → TM Bool) (te : σ → TM D) : compT it tg tt te = tb it fun ds => tA (ds.length ≤ most) (tNX (compL tg tt te ds)) := id rfl
@[simp] theorem x_for {σ : Type} (it : TM (List D)) (s : σ) (body : D → σ → TM σ) : forT it s body = tb it fun ds => tA (ds.length ≤ most) (forL body ds s) := id rfl
@[simp] theorem x_forX {σ : Type} (it : TM (List D)) (s : σ) (body : D → σ → TM (Lx σ)) : forX it s body = tb it fun ds => tA (ds.length ≤ most) (forXL body ds s) := id rfl
@[simp] theorem x_app (xs : List D) (m : TM D) : tApp xs m = tb m fun d => tA (xs.length < most) (tp (xs ++ [d])) := id rfl
@[simp] theorem x_ext (xs : List D) (m : TM D) : tExt xs m = tb m fun d => tO (extC d xs) := id rfl
@[simp] theorem x_sub (xs : List D) (ix : TM D) (d : D) : tSub xs ix d = tb ix fun i => tO (setIx d i xs) := id rfl
def m2 {τ : Type} (u : D → D → TM τ) (l : List D) : TM τ := match l with
  | [d, e] => u d e
  | _ => tBad
def m3 {τ : Type} (u : D → D → D → TM τ) (l : List D) : TM τ := match l with
  | [d, e, h] => u d e h
  | _ => tBad
@[simp] theorem x_P2 {τ : Type} (tm : TM (List D)) (u : D → D → TM τ) : tP2 tm u = tb tm (m2 u) := id rfl
@[simp] theorem x_P3 {τ : Type} (tm : TM (List D)) (u : D → D → D → TM τ) : tP3 tm u = tb tm (m3 u) := id rfl
@[simp] theorem x_m2 {τ : Type} (u : D → D → TM τ) (a b : D) : m2 u [a, b] = u a b := id rfl
@[simp] theorem x_m3 {τ : Type} (u : D → D → D → TM τ) (a b c : D) : m3 u [a, b, c] = u a b c := id rfl
@[simp] theorem d_unInt (i : Int) : unInt (.int i) = some i := id rfl
@[simp] theorem d_unL (l : List D) : unL (.lst l) = some l := id rfl
@[simp] theorem p_fin {σ τ : Type} (s : σ) (fr : D → TM τ) (fs : σ → TM τ) : tFin (.go s) fr fs = fs s := id rfl
@[simp] theorem p_finr {σ τ : Type} (d : D) (fr : D → TM τ) (fs : σ → TM τ) : tFin (.rt d) fr fs = fr d := id rfl
@[simp] theorem p_finb {σ τ : Type} (s : σ) (fr : D → TM τ) (fs : σ → TM τ) : tFin (.br s) fr fs = fs s := id rfl
@[simp] theorem p_unTup2 (a b : D) : unTup 2 (.tup [a, b]) = some [a, b] := id rfl
@[simp] theorem p_unTup3 (a b c : D) : unTup 3 (.tup [a, b, c]) = some [a, b, c] := id rfl
@[simp] theorem p_tgCons {σ ρ : Type} (a : D → TM σ) (b : σ → List D → TM ρ) (d : D) (r : List D) : tgCons a b (d :: r) = tb (a d) fun s => tb (b s r) fun u => tp (s, u) := id rfl
@[simp] theorem p_tgNil : tgNil [] = tp () := id rfl
@[simp] theorem p_u0 (t : TM D) : u0 t [] = t := id rfl
@[simp] theorem p_u1 (t : D → TM D) (a : D) : u1 t [a] = t a := id rfl
@[simp] theorem p_u2 (t : D → D → TM D) (a b : D) : u2 t [a, b] = t a b := id rfl
@[simp] theorem p_u3 (t : D → D → D → TM D) (a b c : D) : u3 t [a, b, c] = t a b c := id rfl
@[simp] theorem p_u4 (t : D → D → D → D → TM D) (a b c d : D) : u4 t [a, b, c, d] = t a b c d := id rfl
@[simp] theorem p_u5 (t : D → D → D → D → D → TM D) (a b c d e : D) : u5 t [a, b, c, d, e] = t a b c d e := id rfl
@[simp] theorem most_eq : most = 100000 := id rfl
@[simp] theorem p_ordL0 {α : Type} (l : List α) : ordL [] l = [] := id rfl
/-! what holds of a term -/
theorem h_tp (a : α) (P : α → Prop) (E : XP) : tp a P E = P a := rfl
theorem h_tb (m : TM α) (f : α → TM β) (P : β → Prop) (E : XP) : tb m f P E = m (fun a => f a P E) E := rfl
theorem h_tA (p : Prop) (m : TM α) (P : α → Prop) (E : XP) : tA p m P E = (p ∧ m P E) := rfl
theorem h_NX (m : TM α) (P : α → Prop) (E : XP) : tNX m P E = m P fun _ _ => False := rfl
/-! data -/
@[simp] theorem d_add (i j : Int) : addD (.int i) (.int j) = some (.int (i + j)) := id rfl
@[simp] theorem d_sub (i j : Int) : subD (.int i) (.int j) = some (.int (i - j)) := id rfl
@[simp] theorem d_neg (i : Int) : negD (.int i) = some (.int (-i)) := id rfl
@[simp] theorem d_lt (i j : Int) : ltD (.int i) (.int j) = some (.bl (decide (i < j))) := id rfl
@[simp] theorem d_le (i j : Int) : leD (.int i) (.int j) = some (.bl (decide (i ≤ j))) := id rfl
@[simp] theorem d_gt (i j : Int) : gtD (.int i) (.int j) = some (.bl (decide (j < i))) := id rfl
@[simp] theorem d_ge (i j : Int) : geD (.int i) (.int j) = some (.bl (decide (j ≤ i))) := id rfl
@[simp] theorem d_eqi (i j : Int) : eqD (.int i) (.int j) = some (.bl (decide (i = j))) := eq_int i j
@[simp] theorem d_nei (i j : Int) : neD (.int i) (.int j) = some (.bl (!decide (i = j))) := ne_int i j
@[simp] theorem d_eqb (i j : Bool) : eqD (.bl i) (.bl j) = some (.bl (i == j)) := eq_bl i j
@[simp] theorem d_neb (i j : Bool) : neD (.bl i) (.bl j) = some (.bl (!(i == j))) := by cases i <;> cases j <;> rfl
@[simp] theorem d_trub (b : Bool) : truB (.bl b) = some b := id rfl
@[simp] theorem d_trui (i : Int) : truB (.int i) = some (i != 0) := id rfl
@[simp] theorem d_unBl (b : Bool) : unBl (.bl b) = some b := id rfl
@[simp] theorem d_len (ds : List D) : lenB [.tup ds] = some (.int ds.length) := id rfl
@[simp] theorem d_lenl (ds : List D) : lenB [.lst ds] = some (.int ds.length) := id rfl
@[simp] theorem d_lens (ds : List D) : lenB [.scr ds] = some (.int ds.length) := id rfl
@[simp] theorem d_row (ds : List D) : rowD (.tup ds) = some ds := id rfl
@[simp] theorem d_rowl (ds : List D) : rowD (.lst ds) = some ds := id rfl
@[simp] theorem d_tupB (ds : List D) : tupB [.lst ds] = some (.tup ds) := id rfl
@[simp] theorem d_tupB' (ds : List D) : tupB [.tup ds] = some (.tup ds) := id rfl
@[simp] theorem d_listB (ds : List D) : listB [.lst ds] = some ds := id rfl
@[simp] theorem d_listB' (ds : List D) : listB [.tup ds] = some ds := id rfl
@[simp] theorem d_intB (i : Int) : intB [.int i] = some (.int i) := id rfl
@[simp] theorem d_absB (i : Int) : absB [.int i] = some (.int (i.natAbs : Int)) := by
  show some (D.int (if i < 0 then -i else i)) = _
  congr 2
  split <;> omega
@[simp] theorem d_max2 (i j : Int) : max2B [.int i, .int j] = some (.int (if j > i then j else i)) := id rfl
@[simp] theorem d_min2 (i j : Int) : min2B [.int i, .int j] = some (.int (if j < i then j else i)) := id rfl
@[simp] theorem d_gcd (i j : Int) : gcdB [.int i, .int j] = some (.int (Nat.gcd i.natAbs j.natAbs : Nat)) := id rfl
@[simp] theorem d_isN_non : isNoneD .non .non = some (.bl true) := id rfl
@[simp] theorem d_isN_i (i : Int) : isNoneD (.int i) .non = some (.bl false) := id rfl
@[simp] theorem d_notN_i (i : Int) : notNoneD (.int i) .non = some (.bl true) := id rfl
@[simp] theorem d_isN_b (i : Bool) : isNoneD (.bl i) .non = some (.bl false) := id rfl
@[simp] theorem d_notN_b (i : Bool) : notNoneD (.bl i) .non = some (.bl true) := id rfl
@[simp] theorem d_isN_t (i : List D) : isNoneD (.tup i) .non = some (.bl false) := id rfl
@[simp] theorem d_notN_t (i : List D) : notNoneD (.tup i) .non = some (.bl true) := id rfl
@[simp] theorem d_isN_l (i : List D) : isNoneD (.lst i) .non = some (.bl false) := id rfl
@[simp] theorem d_notN_l (i : List D) : notNoneD (.lst i) .non = some (.bl true) := id rfl
@[simp] theorem d_isN_s (i : Str) : isNoneD (.str i) .non = some (.bl false) := id rfl
@[simp] theorem d_notN_s (i : Str) : notNoneD (.str i) .non = some (.bl true) := id rfl
@[simp] theorem d_notN_non : notNoneD .non .non = some (.bl false) := id rfl
@[simp] theorem isNon_int (i : Int) : isNon (.int i) = false := id rfl
@[simp] theorem isNon_tup (i : List D) : isNon (.tup i) = false := id rfl
@[simp] theorem isNon_lst (i : List D) : isNon (.lst i) = false := id rfl
@[simp] theorem isNon_non : isNon .non = true := id rfl
@[simp] theorem d_ix0 (a : D) (l : List D) : ixD (.tup (a :: l)) (.int 0) = some a := by
  show L2.atI (a :: l) 0 = _
  exact atI_nat (j := 0) rfl
@[simp] theorem d_ix1 (a b : D) (l : List D) : ixD (.tup (a :: b :: l)) (.int 1) = some b := by
  show L2.atI (a :: b :: l) 1 = _
  exact atI_nat (j := 1) rfl
@[simp] theorem d_ix2 (a b c : D) (l : List D) : ixD (.tup (a :: b :: c :: l)) (.int 2) = some c := by
  show L2.atI (a :: b :: c :: l) 2 = _
  exact atI_nat (j := 2) rfl
@[simp] theorem d_ixl0 (a : D) (l : List D) : ixD (.lst (a :: l)) (.int 0) = some a := by
  show L2.atI (a :: l) 0 = _
  exact atI_nat (j := 0) rfl
@[simp] theorem d_ixl1 (a b : D) (l : List D) : ixD (.lst (a :: b :: l)) (.int 1) = some b := by
  show L2.atI (a :: b :: l) 1 = _
  exact atI_nat (j := 1) rfl
theorem d_ix {ds : List D} {i : Nat} {x : D} (h : ds[i]? = some x) : ixD (.tup ds) (.int (i : Int)) = some x := ix_nat (by omega) (by rw [Int.toNat_natCast]; exact h)
theorem d_ixl {ds : List D} {i : Nat} {x : D} (h : ds[i]? = some x) : ixD (.lst ds) (.int (i : Int)) = some x := ix_natL (by omega) (by rw [Int.toNat_natCast]; exact h)
theorem d_ixm {α : Type} {xs : List α} {f : α → D} {i : Nat} (h : i < xs.length) : ixD (.tup (xs.map f)) (.int (i : Int)) = some (f xs[i]) := d_ix (by rw [List.getElem?_map, List.getElem?_eq_getElem h]; rfl)
theorem d_ixml {α : Type} {xs : List α} {f : α → D} {i : Nat} (h : i < xs.length) : ixD (.lst (xs.map f)) (.int (i : Int)) = some (f xs[i]) := d_ixl (by rw [List.getElem?_map, List.getElem?_eq_getElem h]; rfl)
theorem d_ixlast {α : Type} {xs : List α} {f : α → D} (h : xs ≠ []) : ixD (.tup (xs.map f)) (.int (-1)) = some (f (xs.getLast h)) := by
  show L2.atI (xs.map f) (-1) = _
  have := atI_last (xs.dropLast.map f) (f (xs.getLast h))
  rw [show xs.dropLast.map f ++ [f (xs.getLast h)] = xs.map f by rw [← List.map_singleton, ← List.map_append, List.dropLast_concat_getLast]] at this
  exact this
theorem d_ixlastl {α : Type} {xs : List α} {f : α → D} (h : xs ≠ []) : ixD (.lst (xs.map f)) (.int (-1)) = some (f (xs.getLast h)) := d_ixlast h
theorem d_range1 {n : Nat} (h : n ≤ 1000000) : range1 [.int (n : Int)] = some ((List.range n).map fun i : Nat => .int (i : Int)) := by
  unfold range1
  simp only
  rw [if_pos (show rgOk (n : Int) = true from decide_eq_true ⟨by omega, by omega⟩), Int.toNat_natCast]
  unfold rgD
  congr 1
  apply List.map_congr_left
  intro i _
  rw [Int.zero_add]
theorem d_enum (ds : List D) : enum1 [.tup ds] = some (enumD ds) := rfl
theorem d_add_tup {a b : List D} (h : a.length + b.length ≤ 100000) : addD (.tup a) (.tup b) = some (.tup (a ++ b)) := by
  show (if decide (a.length + b.length ≤ most) then _ else _) = _
  rw [if_pos (decide_eq_true (show a.length + b.length ≤ most from h))]
theorem d_add_lst {a b : List D} (h : a.length + b.length ≤ 100000) : addD (.lst a) (.lst b) = some (.lst (a ++ b)) := by
  show (if decide (a.length + b.length ≤ most) then _ else _) = _
  rw [if_pos (decide_eq_true (show a.length + b.length ≤ most from h))]
theorem enum_map {α : Type} (xs : List α) (f : α → D) : enumD (xs.map f) = (List.range xs.length).map fun i => .tup [.int (i : Nat), (xs.map f).getD i .non] := by unfold enumD; rw [List.length_map]
end
section
variable {α σ : Type} {E : XP}
/-! walks -/
theorem compL_map (enc : α → D) (g : α → D) (tg : D → TM σ) (tt : σ → TM Bool) (te : σ → TM D) : ∀ (xs : List α), (∀ x ∈ xs, (tb (tg (enc x)) fun u => tb (tt u) fun k => if k then tb (te u) fun y => tp (some y) else tp none) = tp (some (g x))) → compL tg tt te (xs.map enc) = tp (xs.map g)
  | [], _ => rfl
  | x :: xs, h => by
    have ih := compL_map enc g tg tt te xs fun y hy => h y (List.mem_cons_of_mem _ hy)
    have h1 := h x (List.mem_cons_self ..)
    show (tb (tg (enc x)) fun u => tb (tt u) fun k => if k then tb (te u) fun y => tb (compL tg tt te (xs.map enc)) fun l => tp (y :: l) else compL tg tt te (xs.map enc)) = _
    rw [ih]
    have h2 : (tb (tg (enc x)) fun u => tb (tt u) fun k => if k then tb (te u) fun y => tb (tp (xs.map g)) fun l => tp (y :: l) else tp (xs.map g)) = tb (tb (tg (enc x)) fun u => tb (tt u) fun k => if k then tb (te u) fun y => tp (some y) else tp none) fun o => match o with
      | some y => tp (y :: xs.map g)
      | none => tp (xs.map g) := by
      funext P E
      show tg (enc x) _ E = tg (enc x) _ E
      congr 1
      funext u
      show tt u _ E = tt u _ E
      congr 1
      funext k
      cases k <;> rfl
    rw [h2, h1]
    rfl
theorem compL_fm (enc : α → D) (g : α → Option D) (tg : D → TM σ) (tt : σ → TM Bool) (te : σ → TM D) : ∀ (xs : List α), (∀ x ∈ xs, (tb (tg (enc x)) fun u => tb (tt u) fun k => if k then tb (te u) fun y => tp (some y) else tp none) = tp (g x)) → compL tg tt te (xs.map enc) = tp (xs.filterMap g)
  | [], _ => rfl
  | x :: xs, h => by
    have ih := compL_fm enc g tg tt te xs fun y hy => h y (List.mem_cons_of_mem _ hy)
    have h1 := h x (List.mem_cons_self ..)
    show (tb (tg (enc x)) fun u => tb (tt u) fun k => if k then tb (te u) fun y => tb (compL tg tt te (xs.map enc)) fun l => tp (y :: l) else compL tg tt te (xs.map enc)) = _
    rw [ih]
    have h2 : (tb (tg (enc x)) fun u => tb (tt u) fun k => if k then tb (te u) fun y => tb (tp (xs.filterMap g)) fun l => tp (y :: l) else tp (xs.filterMap g)) = tb (tb (tg (enc x)) fun u => tb (tt u) fun k => if k then tb (te u) fun y => tp (some y) else tp none) fun o => match o with
      | some y => tp (y :: xs.filterMap g)
      | none => tp (xs.filterMap g) := by
      funext P E
      show tg (enc x) _ E = tg (enc x) _ E
      congr 1
      funext u
      show tt u _ E = tt u _ E
      congr 1
      funext k
      cases k <;> rfl
    rw [h2, h1, List.filterMap_cons]
    cases g x <;> rfl
/-- by what holds of each -/
theorem compL_any (R : D → Prop) (tg : D → TM σ) (te : σ → TM D) : ∀ (ds : List D) (P : List D → Prop), (∀ d ∈ ds, ∀ P' : D → Prop, (∀ y, R y → P' y) → (tb (tg d) te) P' E) → (∀ l, l.length = ds.length → (∀ y ∈ l, R y) → P l) → compL tg (fun _ => tp true) te ds P E
  | [], P, _, q => q [] rfl fun _ h => nomatch h
  | d :: ds, P, h, q => by
    show (tb (tg d) te) (fun y => compL tg (fun _ => tp true) te ds (fun l => P (y :: l)) E) E
    exact h d (List.mem_cons_self ..) _ fun y hy => compL_any R tg te ds _ (fun e he => h e (List.mem_cons_of_mem _ he)) fun l hl hr => q (y :: l) (by simp [hl]) fun z hz => by
      rcases List.mem_cons.mp hz with rfl | hz
      · exact hy
      · exact hr z hz
theorem forL_inv (I : List D → σ → Prop) (body : D → σ → TM σ) : ∀ (ds : List D) (s : σ) (P : σ → Prop), (∀ d ds s, I (d :: ds) s → ∀ P' : σ → Prop, (∀ s', I ds s' → P' s') → body d s P' E) → I ds s → (∀ s, I [] s → P s) → forL body ds s P E
  | [], s, P, _, i, q => q s i
  | d :: ds, s, P, h, i, q => h d ds s i _ fun s' i' => forL_inv I body ds s' P h i' q
/-- all turns go on -/
theorem forXL_inv (I : List D → σ → Prop) (body : D → σ → TM (Lx σ)) : ∀ (ds : List D) (s : σ) (P : Lx σ → Prop), (∀ d ds s, I (d :: ds) s → ∀ P' : Lx σ → Prop, (∀ s', I ds s' → P' (.go s')) → body d s P' E) → I ds s → (∀ s, I [] s → P (.go s)) → forXL body ds s P E
  | [], s, P, _, i, q => q s i
  | d :: ds, s, P, h, i, q => h d ds s i _ fun s' i' => forXL_inv I body ds s' P h i' q
theorem forL_fold {τ : Type} (enc : α → D) (es : τ → σ) (f : τ → α → τ) (I : τ → Prop) (body : D → σ → TM σ) : ∀ (xs : List α) (s : τ), (∀ x ∈ xs, ∀ s, I s → body (enc x) (es s) = tp (es (f s x)) ∧ I (f s x)) → I s → forL body (xs.map enc) (es s) = tp (es (xs.foldl f s))
  | [], s, _, _ => rfl
  | x :: xs, s, h, i => by
    obtain ⟨h1, h2⟩ := h x (List.mem_cons_self ..) s i
    show tb (body (enc x) (es s)) _ = _
    rw [h1, p_tb]
    exact forL_fold enc es f I body xs (f s x) (fun y hy => h y (List.mem_cons_of_mem _ hy)) h2
end
/-! isinstance -/
@[simp] theorem is_int_int (i : Int) : isB [.int i, .opq (.ty "int")] = some (.bl true) := isB_int rfl
@[simp] theorem is_int_bl (i : Bool) : isB [.bl i, .opq (.ty "int")] = some (.bl true) := isB_int rfl
@[simp] theorem is_int_tup (i : List D) : isB [.tup i, .opq (.ty "int")] = some (.bl false) := isB_int rfl
@[simp] theorem is_int_lst (i : List D) : isB [.lst i, .opq (.ty "int")] = some (.bl false) := isB_int rfl
@[simp] theorem is_int_str (i : Str) : isB [.str i, .opq (.ty "int")] = some (.bl false) := isB_int rfl
@[simp] theorem is_int_non : isB [.non, .opq (.ty "int")] = some (.bl false) := isB_int rfl
@[simp] theorem is_bl_int (i : Int) : isB [.int i, .opq (.ty "bool")] = some (.bl false) := isB_bool rfl
@[simp] theorem is_bl_bl (i : Bool) : isB [.bl i, .opq (.ty "bool")] = some (.bl true) := isB_bool rfl
@[simp] theorem is_bl_tup (i : List D) : isB [.tup i, .opq (.ty "bool")] = some (.bl false) := isB_bool rfl
@[simp] theorem is_bl_lst (i : List D) : isB [.lst i, .opq (.ty "bool")] = some (.bl false) := isB_bool rfl
@[simp] theorem is_bl_str (i : Str) : isB [.str i, .opq (.ty "bool")] = some (.bl false) := isB_bool rfl
@[simp] theorem is_bl_non : isB [.non, .opq (.ty "bool")] = some (.bl false) := isB_bool rfl
@[simp] theorem is_tup_int (i : Int) : isB [.int i, .opq (.ty "tuple")] = some (.bl false) := isB_tup rfl
@[simp] theorem is_tup_bl (i : Bool) : isB [.bl i, .opq (.ty "tuple")] = some (.bl false) := isB_tup rfl
@[simp] theorem is_tup_tup (i : List D) : isB [.tup i, .opq (.ty "tuple")] = some (.bl true) := isB_tup rfl
@[simp] theorem is_tup_lst (i : List D) : isB [.lst i, .opq (.ty "tuple")] = some (.bl false) := isB_tup rfl
@[simp] theorem is_tup_str (i : Str) : isB [.str i, .opq (.ty "tuple")] = some (.bl false) := isB_tup rfl
@[simp] theorem is_tup_non : isB [.non, .opq (.ty "tuple")] = some (.bl false) := isB_tup rfl
@[simp] theorem is_str_int (i : Int) : isB [.int i, .opq (.ty "str")] = some (.bl false) := isB_str rfl
@[simp] theorem is_str_bl (i : Bool) : isB [.bl i, .opq (.ty "str")] = some (.bl false) := isB_str rfl
@[simp] theorem is_str_tup (i : List D) : isB [.tup i, .opq (.ty "str")] = some (.bl false) := isB_str rfl
@[simp] theorem is_str_lst (i : List D) : isB [.lst i, .opq (.ty "str")] = some (.bl false) := isB_str rfl
@[simp] theorem is_str_str (i : Str) : isB [.str i, .opq (.ty "str")] = some (.bl true) := isB_str rfl
@[simp] theorem is_str_non : isB [.non, .opq (.ty "str")] = some (.bl false) := isB_str rfl
theorem isB_list {d : D} (h : hasTy d = true) : isB [d, .opq (.ty "list")] = some (.bl (isLstD d)) :=
  isB_of (p := isLstD) h (by decide +kernel) (fun _ e => by subst e; exact (show kitB "bool" "list" = some false by decide +kernel)) (fun _ e => by subst e; exact (show kitB "int" "list" = some false by decide +kernel)) (fun _ e => by subst e; exact (show kitB "str" "list" = some false by decide +kernel)) (fun _ e => by subst e; exact (show kitB "tuple" "list" = some false by decide +kernel)) (fun _ e => by subst e; exact (show kitB "list" "list" = some true by decide +kernel)) (fun _ e => by subst e; exact (show kitB "dict" "list" = some false by decide +kernel))
@[simp] theorem is_lst_int (i : Int) : isB [.int i, .opq (.ty "list")] = some (.bl false) := isB_list rfl
@[simp] theorem is_lst_bl (i : Bool) : isB [.bl i, .opq (.ty "list")] = some (.bl false) := isB_list rfl
@[simp] theorem is_lst_tup (i : List D) : isB [.tup i, .opq (.ty "list")] = some (.bl false) := isB_list rfl
@[simp] theorem is_lst_lst (i : List D) : isB [.lst i, .opq (.ty "list")] = some (.bl true) := isB_list rfl
@[simp] theorem is_lst_str (i : Str) : isB [.str i, .opq (.ty "list")] = some (.bl false) := isB_list rfl
@[simp] theorem is_lst_non : isB [.non, .opq (.ty "list")] = some (.bl false) := isB_list rfl
/-! what is compared as a whole -/
def niceB : Nat → D → Bool
  | 0, _ => false
  | n + 1, d => match d with
    | .non => true
    | .int _ => true
    | .str x => (PyData.str x).canLay0
    | .tup ds => ds.all (niceB n)
    | .lst ds => ds.all (niceB n)
    | _ => false
theorem nice_py : ∀ (n : Nat) (d : D), niceB n d = true → ∃ p, toPy d = some p ∧ p.canLay0 = true ∧ p.depth ≤ n
  | 0, d, h => by cases h
  | n + 1, d, h => by
    have hl : ∀ ds : List D, ds.all (niceB n) = true → ∃ ps, toPys ds = some ps ∧ PyData.canLayAll0 ps = true ∧ PyData.depthAll ps ≤ n := by
      intro ds
      induction ds with
      | nil => exact fun _ => ⟨[], rfl, rfl, Nat.zero_le _⟩
      | cons d ds ih =>
        intro h
        rw [List.all_cons, Bool.and_eq_true] at h
        obtain ⟨p, a1, a2, a3⟩ := nice_py n d h.1
        obtain ⟨ps, b1, b2, b3⟩ := ih h.2
        refine ⟨p :: ps, by unfold toPys; rw [a1, b1], by unfold PyData.canLayAll0; rw [a2, b2]; rfl, ?_⟩
        unfold PyData.depthAll
        omega
    cases d <;> try (cases h; done)
    · exact ⟨_, rfl, rfl, by simp [PyData.depth]⟩
    · exact ⟨_, rfl, rfl, by simp [PyData.depth]⟩
    · exact ⟨_, rfl, h, by simp [PyData.depth]⟩
    · rename_i ds
      obtain ⟨ps, b1, b2, b3⟩ := hl ds h
      exact ⟨.tuple ps, by unfold toPy; rw [b1]; rfl, by unfold PyData.canLay0; exact b2, by simp only [PyData.depth]; omega⟩
    · rename_i ds
      obtain ⟨ps, b1, b2, b3⟩ := hl ds h
      exact ⟨.list ps, by unfold toPy; rw [b1]; rfl, by unfold PyData.canLay0; exact b2, by simp only [PyData.depth]; omega⟩
theorem eqv_nice : ∀ (n : Nat) (d e : D) (p q : PyData), niceB n d = true → niceB n e = true → toPy d = some p → toPy e = some q → (PyData.eqv p q = true ↔ d = e)
  | 0, d, e, p, q, h, _, _, _ => by cases h
  | n + 1, d, e, p, q, h1, h2, hp, hq => by
    have hl : ∀ (ds es : List D) (ps qs : List PyData), ds.all (niceB n) = true → es.all (niceB n) = true → toPys ds = some ps → toPys es = some qs → (PyData.eqvAll ps qs = true ↔ ds = es) := by
      intro ds
      induction ds with
      | nil =>
        intro es ps qs _ _ h3 h4
        cases h3
        cases es with
        | nil => cases h4; simp [PyData.eqvAll]
        | cons e es =>
          unfold toPys at h4
          split at h4
          · cases h4; simp [PyData.eqvAll]
          · cases h4
      | cons d ds ih =>
        intro es ps qs h1 h2 h3 h4
        rw [List.all_cons, Bool.and_eq_true] at h1
        unfold toPys at h3
        split at h3
        · rename_i p ps hp hps
          cases h3
          cases es with
          | nil => cases h4; simp [PyData.eqvAll]
          | cons e es =>
            rw [List.all_cons, Bool.and_eq_true] at h2
            unfold toPys at h4
            split at h4
            · rename_i q qs hq hqs
              cases h4
              unfold PyData.eqvAll
              rw [Bool.and_eq_true, eqv_nice n d e p q h1.1 h2.1 hp hq, ih es ps qs h1.2 h2.2 hps hqs, List.cons.injEq]
            · cases h4
        · cases h3
    have key : ∀ (d : D) (p : PyData), niceB (n + 1) d = true → toPy d = some p → (d = .non ∧ p = .none) ∨ (∃ i, d = .int i ∧ p = .int i) ∨ (∃ x, d = .str x ∧ p = .str x) ∨ (∃ ds ps, d = .tup ds ∧ p = .tuple ps ∧ ds.all (niceB n) = true ∧ toPys ds = some ps) ∨ (∃ ds ps, d = .lst ds ∧ p = .list ps ∧ ds.all (niceB n) = true ∧ toPys ds = some ps) := by
      intro d p h hp
      cases d <;> try (cases h; done)
      · cases hp; exact .inl ⟨rfl, rfl⟩
      · cases hp; exact .inr (.inl ⟨_, rfl, rfl⟩)
      · cases hp; exact .inr (.inr (.inl ⟨_, rfl, rfl⟩))
      · rename_i ds
        unfold toPy at hp
        cases g1 : toPys ds with
        | none => rw [g1] at hp; cases hp
        | some ps => rw [g1] at hp; cases hp; exact .inr (.inr (.inr (.inl ⟨_, _, rfl, rfl, h, g1⟩)))
      · rename_i ds
        unfold toPy at hp
        cases g1 : toPys ds with
        | none => rw [g1] at hp; cases hp
        | some ps => rw [g1] at hp; cases hp; exact .inr (.inr (.inr (.inr ⟨_, _, rfl, rfl, h, g1⟩)))
    rcases key d p h1 hp with ⟨rfl, rfl⟩ | ⟨i, rfl, rfl⟩ | ⟨x, rfl, rfl⟩ | ⟨ds, ps, rfl, rfl, a1, a2⟩ | ⟨ds, ps, rfl, rfl, a1, a2⟩ <;>
    rcases key e q h2 hq with ⟨rfl, rfl⟩ | ⟨j, rfl, rfl⟩ | ⟨y, rfl, rfl⟩ | ⟨es, qs, rfl, rfl, b1, b2⟩ | ⟨es, qs, rfl, rfl, b1, b2⟩ <;>
    first
      | (simp [PyData.eqv]; done)
      | (have := hl ds es ps qs a1 b1 a2 b2; simp only [PyData.eqv, this, D.tup.injEq, D.lst.injEq])
theorem eq_nice {d e : D} (h1 : niceB 60 d = true) (h2 : niceB 60 e = true) : ∃ b, eqD d e = some (.bl b) ∧ neD d e = some (.bl (!b)) ∧ (b = true ↔ d = e) := by
  obtain ⟨p, a1, a2, a3⟩ := nice_py 60 d h1
  obtain ⟨q, b1, b2, b3⟩ := nice_py 60 e h2
  have hs : eqB d e = some (PyData.eqv p q) := by
    unfold eqB
    rw [a1, b1]
    simp only
    unfold SeqAt.shaped
    rw [a2, b2, decide_eq_true (show p.depth ≤ 64 by omega), decide_eq_true (show q.depth ≤ 64 by omega)]
    rfl
  refine ⟨PyData.eqv p q, ?_, ?_, eqv_nice 60 d e p q h1 h2 a1 b1⟩
  · unfold eqD; rw [hs]; rfl
  · unfold neD; rw [hs]; rfl
open Classical in
theorem d_eqn {d e : D} (h1 : niceB 60 d = true) (h2 : niceB 60 e = true) : eqD d e = some (.bl (decide (d = e))) := by
  obtain ⟨b, h, _, k⟩ := eq_nice h1 h2
  rw [h]
  congr 2
  cases b with
  | true => exact (decide_eq_true (k.mp rfl)).symm
  | false => exact (decide_eq_false fun z => by have := k.mpr z; cases this).symm
open Classical in
theorem d_nen {d e : D} (h1 : niceB 60 d = true) (h2 : niceB 60 e = true) : neD d e = some (.bl (!decide (d = e))) := by
  obtain ⟨b, _, h, k⟩ := eq_nice h1 h2
  rw [h]
  congr 3
  cases b with
  | true => exact (decide_eq_true (k.mp rfl)).symm
  | false => exact (decide_eq_false fun z => by have := k.mpr z; cases this).symm
end FL
/-! PL2: fractions -/
namespace FL
open PySem PySem.Spec L2
theorem pow_le (i j : Nat) (h : i ≤ j) : 2 ^ i ≤ 2 ^ j := Nat.pow_le_pow_right (by decide) h
def Sm (k : Nat) (q : Rat) : Prop := q.num.natAbs < 2 ^ k ∧ q.den < 2 ^ k
theorem Sm.mono {k j : Nat} {q : Rat} (h : Sm k q) (e : k ≤ j) : Sm j q := ⟨Nat.lt_of_lt_of_le h.1 (pow_le _ _ e), Nat.lt_of_lt_of_le h.2 (pow_le _ _ e)⟩
theorem lt_mul {i j x y : Nat} (h1 : x < 2 ^ i) (h2 : y < 2 ^ j) : x * y < 2 ^ (i + j) := by
  rw [Nat.pow_add]
  exact Nat.mul_lt_mul'' h1 h2
theorem sm_div {k : Nat} {n m : Int} (h0 : 0 < m) (h1 : n.natAbs < 2 ^ k) (h2 : m.natAbs < 2 ^ k) : Sm k (Rat.divInt n m) := by
  refine ⟨?_, ?_⟩
  · rw [Rat.num_divInt, Int.sign_eq_one_of_pos h0, Int.one_mul, Int.natAbs_ediv_of_dvd ?_]
    · exact Nat.lt_of_le_of_lt (Nat.div_le_self _ _) h1
    · exact Int.gcd_dvd_right ..
  · have := den_le (n := n) h0
    omega
theorem sm_add {j k : Nat} {a b : Rat} (ha : Sm j a) (hb : Sm k b) : Sm (j + k + 1) (a + b) := by
  rw [← add_fr]
  have d1 := a.den_pos
  have d2 := b.den_pos
  refine sm_div (Int.mul_pos (by omega) (by omega)) ?_ ?_
  · have h1 := lt_mul ha.1 hb.2
    have h2 := lt_mul hb.1 ha.2
    have h3 : (a.num * b.den + b.num * a.den).natAbs ≤ (a.num * b.den).natAbs + (b.num * a.den).natAbs := Int.natAbs_add_le ..
    rw [Int.natAbs_mul, Int.natAbs_mul, Int.natAbs_natCast, Int.natAbs_natCast] at h3
    rw [Nat.add_comm k j] at h2
    rw [Nat.pow_succ]
    omega
  · rw [Int.natAbs_mul, Int.natAbs_natCast, Int.natAbs_natCast]
    exact Nat.lt_of_lt_of_le (lt_mul ha.2 hb.2) (pow_le _ _ (by omega))
theorem sm_neg {k : Nat} {a : Rat} (h : Sm k a) : Sm k (-a) := ⟨by rw [Rat.neg_num, Int.natAbs_neg]; exact h.1, h.2⟩
theorem sm_sub {j k : Nat} {a b : Rat} (ha : Sm j a) (hb : Sm k b) : Sm (j + k + 1) (a - b) := by
  rw [Rat.sub_eq_add_neg]
  exact sm_add ha (sm_neg hb)
theorem sm_mul {j k : Nat} {a b : Rat} (ha : Sm j a) (hb : Sm k b) : Sm (j + k) (a * b) := by
  rw [← mul_fr]
  have d1 := a.den_pos
  have d2 := b.den_pos
  refine sm_div (Int.mul_pos (by omega) (by omega)) ?_ ?_
  · rw [Int.natAbs_mul]
    exact lt_mul ha.1 hb.1
  · rw [Int.natAbs_mul, Int.natAbs_natCast, Int.natAbs_natCast]
    exact lt_mul ha.2 hb.2
theorem sm_int {k : Nat} {i : Int} (h : i.natAbs < 2 ^ (k + 1)) : Sm (k + 1) (i : Rat) := ⟨h, by
  show 1 < 2 ^ (k + 1)
  have := Nat.one_le_two_pow (n := k)
  omega⟩
/-- a whole number of N-th parts, at most M of them either way -/
def Fx (N M : Nat) (q : Rat) : Prop := 0 < N ∧ ∃ n : Int, q = Rat.divInt n N ∧ n.natAbs ≤ M
theorem Fx.sm {N M k : Nat} {q : Rat} (h : Fx N M q) (h1 : N < 2 ^ k) (h2 : M < 2 ^ k) : Sm k q := by
  obtain ⟨h0, n, rfl, hn⟩ := h
  exact sm_div (by omega) (by omega) (by rw [Int.natAbs_natCast]; exact h1)
theorem Fx.up {N M M' : Nat} {q : Rat} (h : Fx N M q) (e : M ≤ M') : Fx N M' q := by
  obtain ⟨h0, n, e1, hn⟩ := h
  exact ⟨h0, n, e1, by omega⟩
theorem divInt_scale {n N c : Int} (hc : c ≠ 0) : Rat.divInt (c * n) (c * N) = Rat.divInt n N := Rat.divInt_mul_left hc
theorem Fx.lift {N M c : Nat} {q : Rat} (h : Fx N M q) (hc : 0 < c) : Fx (c * N) (c * M) q := by
  obtain ⟨h0, n, rfl, hn⟩ := h
  refine ⟨Nat.mul_pos hc h0, c * n, ?_, ?_⟩
  · rw [Int.natCast_mul, divInt_scale (by omega)]
  · rw [Int.natAbs_mul, Int.natAbs_natCast]
    exact Nat.mul_le_mul_left _ hn
theorem Fx.add {N M M' : Nat} {a b : Rat} (ha : Fx N M a) (hb : Fx N M' b) : Fx N (M + M') (a + b) := by
  obtain ⟨h0, n, rfl, hn⟩ := ha
  obtain ⟨_, m, rfl, hm⟩ := hb
  refine ⟨h0, n + m, ?_, by omega⟩
  rw [Rat.divInt_add_divInt _ _ (by omega) (by omega), ← Int.add_mul, Rat.divInt_mul_right (by omega)]
theorem Fx.neg {N M : Nat} {a : Rat} (ha : Fx N M a) : Fx N M (-a) := by
  obtain ⟨h0, n, rfl, hn⟩ := ha
  exact ⟨h0, -n, by rw [Rat.neg_divInt], by omega⟩
theorem Fx.sub {N M M' : Nat} {a b : Rat} (ha : Fx N M a) (hb : Fx N M' b) : Fx N (M + M') (a - b) := by
  rw [Rat.sub_eq_add_neg]
  exact ha.add hb.neg
theorem Fx.mul {N N' M M' : Nat} {a b : Rat} (ha : Fx N M a) (hb : Fx N' M' b) : Fx (N * N') (M * M') (a * b) := by
  obtain ⟨h0, n, rfl, hn⟩ := ha
  obtain ⟨h1, m, rfl, hm⟩ := hb
  refine ⟨Nat.mul_pos h0 h1, n * m, ?_, ?_⟩
  · rw [Rat.divInt_mul_divInt, Int.natCast_mul]
  · rw [Int.natAbs_mul]
    exact Nat.mul_le_mul hn hm
theorem Fx.int {N : Nat} (hN : 0 < N) (i : Int) : Fx N (N * i.natAbs) (i : Rat) := by
  refine ⟨hN, N * i, ?_, ?_⟩
  · have := divInt_scale (n := i) (N := 1) (c := N) (by omega)
    rw [Int.mul_one] at this
    rw [this]
    exact (Rat.num_divInt_den (i : Rat)).symm
  · rw [Int.natAbs_mul, Int.natAbs_natCast]
    exact Nat.le_refl _
theorem Fx.sum {N M : Nat} : ∀ {l : List Rat}, 0 < N → (∀ x ∈ l, Fx N M x) → Fx N (l.length * M) l.sum
  | [], h0, _ => ⟨h0, 0, by rw [Rat.zero_divInt]; rfl, by simp⟩
  | x :: l, h0, h => by
    rw [List.sum_cons, List.length_cons, Nat.succ_mul, Nat.add_comm]
    exact (h x (List.mem_cons_self ..)).add (Fx.sum h0 fun y hy => h y (List.mem_cons_of_mem _ hy))
theorem mul_sm {k : Nat} {x y : Int} (h1 : x.natAbs < 2 ^ k) (h2 : y.natAbs < 2 ^ k) (hk : k ≤ 4096 := by decide) : mulD (.int x) (.int y) = some (.int (x * y)) :=
  mul_ok (Nat.lt_of_lt_of_le h1 (pow_le _ _ hk)) (Nat.lt_of_lt_of_le h2 (pow_le _ _ hk))
theorem den_sm {k : Nat} {q : Rat} (h : Sm k q) : (q.den : Int).natAbs < 2 ^ k := by rw [Int.natAbs_natCast]; exact h.2
theorem dens {k : Nat} {a b : Rat} (ha : Sm k a) (hb : Sm k b) : 0 < ((a.den : Int) * b.den) ∧ ((a.den : Int) * b.den).natAbs < 2 ^ (k + k) := by
  have d1 := a.den_pos
  have d2 := b.den_pos
  refine ⟨Int.mul_pos (by omega) (by omega), ?_⟩
  rw [Int.natAbs_mul, Int.natAbs_natCast, Int.natAbs_natCast]
  exact lt_mul ha.2 hb.2
@[simp] theorem d_fr0 (a : Rat) : ixD (fr a) (.int 0) = some (.int a.num) := d_ix0 _ _
@[simp] theorem d_fr1 (a : Rat) : ixD (fr a) (.int 1) = some (.int (a.den : Int)) := d_ix1 _ _ _
theorem fr_int (i : Int) : D.tup [.int i, .int 1] = fr (i : Rat) := rfl
theorem fr_inj {a b : Rat} : fr a = fr b ↔ a = b := by
  constructor
  · intro h
    unfold fr at h
    injection h with h
    injection h with h1 h2
    injection h1 with h1
    injection h2 with h2
    injection h2 with h2
    exact Rat.ext h1 (by omega)
  · rintro rfl; rfl
theorem nice_fr (n : Nat) (a : Rat) : niceB (n + 2) (fr a) = true := by
  show ([D.int a.num, .int a.den].all (niceB (n + 1))) = true
  rfl
theorem nice_frs (n : Nat) (l : List Rat) : niceB (n + 3) (.tup (l.map fr)) = true := List.all_eq_true.mpr fun x hx => by
  obtain ⟨q, _, rfl⟩ := List.mem_map.mp hx
  exact nice_fr n q
theorem nice_frl (n : Nat) (l : List Rat) : niceB (n + 3) (.lst (l.map fr)) = true := List.all_eq_true.mpr fun x hx => by
  obtain ⟨q, _, rfl⟩ := List.mem_map.mp hx
  exact nice_fr n q
theorem d_eqfr (a b : Rat) : eqD (fr a) (fr b) = some (.bl (decide (a = b))) := by
  rw [d_eqn (nice_fr 58 a) (nice_fr 58 b)]
  congr 2
  exact decide_eq_decide.mpr fr_inj
theorem d_nefr (a b : Rat) : neD (fr a) (fr b) = some (.bl (!decide (a = b))) := by
  rw [d_nen (nice_fr 58 a) (nice_fr 58 b)]
  congr 3
  exact decide_eq_decide.mpr fr_inj
theorem frs_inj {a b : List Rat} : a.map fr = b.map fr ↔ a = b := by
  constructor
  · intro h
    exact (List.map_inj_right (f := fr) fun _ _ => fr_inj.mp).mp h
  · rintro rfl; rfl
theorem d_eqfrs (a b : List Rat) : eqD (.tup (a.map fr)) (.tup (b.map fr)) = some (.bl (decide (a = b))) := by
  rw [d_eqn (nice_frs 57 a) (nice_frs 57 b)]
  congr 2
  exact decide_eq_decide.mpr (by rw [D.tup.injEq, frs_inj])
theorem lt_fr (a b : Rat) : a.num * b.den < b.num * a.den ↔ a < b := (Rat.lt_iff ..).symm
theorem gcd_one (q : Rat) : Nat.gcd q.num.natAbs q.den = 1 := q.reduced
theorem div_pos_ok {i j : Int} (h : 0 < j) (h2 : j.natAbs < 2 ^ 4096) : divD (.int i) (.int j) = some (.int (i / j)) := div_ok h h2
/-- a pair in lowest terms -/
theorem pair_fr {n m : Int} (h0 : 0 < m) (h1 : Nat.gcd n.natAbs m.natAbs = 1) : D.tup [.int n, .int m] = fr (Rat.divInt n m) := by
  rw [← part_fr h0, h1]
  simp
end FL
/-! PL3: terms opened; what is drawn -/
namespace FL
open PySem PySem.Spec L2
section
variable {α β : Type} {E : XP}
theorem h_ite {c : Prop} [Decidable c] (a b : TM α) (P : α → Prop) (E : XP) : (if c then a else b) P E = if c then a P E else b P E := by split <;> rfl
theorem h_tbA {p : Prop} (m : TM α) (f : α → TM β) (P : β → Prop) (E : XP) : tb (tA p m) f P E = (p ∧ tb m f P E) := rfl
theorem h_tbNX (m : TM α) (f : α → TM β) (P : β → Prop) (E : XP) : tb (tNX m) f P E = m (fun a => f a P E) fun _ _ => False := rfl
theorem unmap {α : Type} {enc : α → D} {G : α → Prop} : ∀ {l : List D}, (∀ y ∈ l, ∃ x, y = enc x ∧ G x) → ∃ xs : List α, l = xs.map enc ∧ (∀ x ∈ xs, G x) ∧ xs.length = l.length
  | [], _ => ⟨[], rfl, (fun _ h => nomatch h), rfl⟩
  | y :: l, h => by
    obtain ⟨x, rfl, g⟩ := h y (List.mem_cons_self ..)
    obtain ⟨xs, rfl, g2, g3⟩ := unmap fun y hy => h y (List.mem_cons_of_mem _ hy)
    exact ⟨x :: xs, rfl, fun z hz => by
      rcases List.mem_cons.mp hz with rfl | hz
      · exact g
      · exact g2 z hz, by simp⟩
theorem three {a b c : Int} {t : Int} (h0 : 0 ≤ t) (h1 : t < 3) {Q : Int → Prop} (qa : Q a) (qb : Q b) (qc : Q c) : ∃ v, ixD (.tup [.int a, .int b, .int c]) (.int t) = some (.int v) ∧ Q v := by
  rcases (by omega : t = 0 ∨ t = 1 ∨ t = 2) with rfl | rfl | rfl
  · exact ⟨_, rfl, qa⟩
  · exact ⟨_, rfl, qb⟩
  · exact ⟨_, rfl, qc⟩
theorem four {a b c d : Int} {t : Int} (h0 : 0 ≤ t) (h1 : t < 4) {Q : Int → Prop} (qa : Q a) (qb : Q b) (qc : Q c) (qd : Q d) : ∃ v, ixD (.tup [.int a, .int b, .int c, .int d]) (.int t) = some (.int v) ∧ Q v := by
  rcases (by omega : t = 0 ∨ t = 1 ∨ t = 2 ∨ t = 3) with rfl | rfl | rfl | rfl
  · exact ⟨_, rfl, qa⟩
  · exact ⟨_, rfl, qb⟩
  · exact ⟨_, rfl, qc⟩
  · exact ⟨_, rfl, qd⟩
theorem two {a b : D} {t : Int} (h0 : 0 ≤ t) (h1 : t < 2) {Q : D → Prop} (qa : Q a) (qb : Q b) : ∃ v, ixD (.tup [a, b]) (.int t) = some v ∧ Q v := by
  rcases (by omega : t = 0 ∨ t = 1) with rfl | rfl
  · exact ⟨_, rfl, qa⟩
  · exact ⟨_, rfl, qb⟩
theorem mul_i {x y : Int} (h1 : x.natAbs < 2 ^ 64) (h2 : y.natAbs < 2 ^ 64) : mulD (.int x) (.int y) = some (.int (x * y)) := mul_ok (small _ h1) (small _ h2)
theorem forL_foldI {σ τ : Type} (enc : α → D) (es : τ → σ) (f : τ → α → τ) (I : List α → τ → Prop) (body : D → σ → TM σ) : ∀ (xs : List α) (s : τ), (∀ x xs s, I (x :: xs) s → body (enc x) (es s) = tp (es (f s x)) ∧ I xs (f s x)) → I xs s → forL body (xs.map enc) (es s) = tp (es (xs.foldl f s))
  | [], s, _, _ => rfl
  | x :: xs, s, h, i => by
    obtain ⟨h1, h2⟩ := h x xs s i
    show tb (body (enc x) (es s)) _ = _
    rw [h1, p_tb]
    exact forL_foldI enc es f I body xs (f s x) h h2
theorem foldl_sum (l : List Rat) (a : Rat) : l.foldl (· + ·) a = a + l.sum := by
  induction l generalizing a with
  | nil => rw [List.foldl_nil, List.sum_nil, Rat.add_zero]
  | cons x l ih => rw [List.foldl_cons, ih, List.sum_cons]; grind
theorem Fx.sm' {N M k : Nat} {q : Rat} (h : Fx N M q) (h1 : N < 2 ^ k) (h2 : M < 2 ^ k) : Sm k q := h.sm h1 h2
@[simp] theorem fr_int' (i : Int) : D.tup [.int i, .int 1] = fr (i : Rat) := id rfl
@[simp] theorem isT_i (i : Int) : isTB ["tuple", "list"] (.int i) = some (.bl false) := by
  show (kitAnyB "int" ["tuple", "list"]).map D.bl = _
  rw [show kitAnyB "int" ["tuple", "list"] = some false by decide +kernel]; rfl
@[simp] theorem isT_b (i : Bool) : isTB ["tuple", "list"] (.bl i) = some (.bl false) := by
  show (kitAnyB "bool" ["tuple", "list"]).map D.bl = _
  rw [show kitAnyB "bool" ["tuple", "list"] = some false by decide +kernel]; rfl
@[simp] theorem isT_s (i : Str) : isTB ["tuple", "list"] (.str i) = some (.bl false) := by
  show (kitAnyB "str" ["tuple", "list"]).map D.bl = _
  rw [show kitAnyB "str" ["tuple", "list"] = some false by decide +kernel]; rfl
@[simp] theorem isT_n : isTB ["tuple", "list"] .non = some (.bl false) := by
  show (kitAnyB "NoneType" ["tuple", "list"]).map D.bl = _
  rw [show kitAnyB "NoneType" ["tuple", "list"] = some false by decide +kernel]; rfl
@[simp] theorem isT_t (i : List D) : isTB ["tuple", "list"] (.tup i) = some (.bl true) := by
  show (kitAnyB "tuple" ["tuple", "list"]).map D.bl = _
  rw [show kitAnyB "tuple" ["tuple", "list"] = some true by decide +kernel]; rfl
@[simp] theorem isT_l (i : List D) : isTB ["tuple", "list"] (.lst i) = some (.bl true) := by
  show (kitAnyB "list" ["tuple", "list"]).map D.bl = _
  rw [show kitAnyB "list" ["tuple", "list"] = some true by decide +kernel]; rfl
/-- data of whole numbers -/
def numB : Nat → D → Bool
  | 0, _ => false
  | n + 1, d => match d with
    | .non => true
    | .int _ => true
    | .tup ds => decide (ds.length ≤ 1000) && ds.all (numB n)
    | .lst ds => decide (ds.length ≤ 1000) && ds.all (numB n)
    | _ => false
theorem trus_map : ∀ bs : List Bool, trusOf (bs.map .bl) = some bs
  | [] => rfl
  | b :: bs => by
    show (trusOf (bs.map .bl)).map _ = _
    rw [trus_map bs]
    rfl
theorem all_map (bs : List Bool) : allB [.lst (bs.map .bl)] = some (.bl (bs.all id)) := by
  show (trusOf (bs.map .bl)).map _ = _
  rw [trus_map]; rfl
theorem any_map (bs : List Bool) : anyB [.lst (bs.map .bl)] = some (.bl (bs.any id)) := by
  show (trusOf (bs.map .bl)).map _ = _
  rw [trus_map]; rfl
theorem all_trues {α : Type} (xs : List α) : allB [.lst (xs.map fun _ => .bl true)] = some (.bl true) := by
  have := all_map (xs.map fun _ => true)
  rw [List.map_map] at this
  rw [show (xs.map fun _ => D.bl true) = xs.map (D.bl ∘ fun _ => true) from rfl, this]
  congr 2
  simp
theorem nums_map : ∀ bs : List Int, numsOf (bs.map .int) = some bs
  | [] => rfl
  | b :: bs => by
    show (numsOf (bs.map .int)).map _ = _
    rw [nums_map bs]
    rfl
theorem sum_map (bs : List Int) : sumB [.lst (bs.map .int)] = some (.int bs.sum) := by
  show (numsOf (bs.map .int)).map _ = _
  rw [nums_map]; rfl
end
end FL
/-! LV1: the level run, as mathematics -/
namespace FL
namespace LV
/-- the sum of f from 0 up to n - 1 -/
def sum : Nat → (Nat → Rat) → Rat
  | 0, _ => 0
  | n + 1, f => sum n f + f n
theorem sum_congr {n : Nat} {f g : Nat → Rat} (h : ∀ i, i < n → f i = g i) : sum n f = sum n g := by
  induction n with
  | zero => rfl
  | succ n ih =>
    show sum n f + f n = sum n g + g n
    rw [ih fun i hi => h i (by omega), h n (by omega)]
theorem sum_add (n : Nat) (f g : Nat → Rat) : sum n (fun i => f i + g i) = sum n f + sum n g := by
  induction n with
  | zero => show (0 : Rat) = 0 + 0; grind
  | succ n ih =>
    show sum n (fun i => f i + g i) + (f n + g n) = (sum n f + f n) + (sum n g + g n)
    rw [ih]; grind
theorem sum_mul (n : Nat) (c : Rat) (f : Nat → Rat) : sum n (fun i => c * f i) = c * sum n f := by
  induction n with
  | zero => show (0 : Rat) = c * 0; grind
  | succ n ih =>
    show sum n (fun i => c * f i) + c * f n = c * (sum n f + f n)
    rw [ih]; grind
theorem sum_nonneg {n : Nat} {f : Nat → Rat} (h : ∀ i, i < n → 0 ≤ f i) : 0 ≤ sum n f := by
  induction n with
  | zero => exact Rat.le_refl
  | succ n ih =>
    have h1 := ih fun i hi => h i (by omega)
    have h2 := h n (by omega)
    show 0 ≤ sum n f + f n
    grind
theorem sum_le {n : Nat} {f g : Nat → Rat} (h : ∀ i, i < n → f i ≤ g i) : sum n f ≤ sum n g := by
  induction n with
  | zero => exact Rat.le_refl
  | succ n ih =>
    have h1 := ih fun i hi => h i (by omega)
    have h2 := h n (by omega)
    show sum n f + f n ≤ sum n g + g n
    grind
theorem sum_zero {n : Nat} {f : Nat → Rat} (h : ∀ i, i < n → 0 ≤ f i) (h0 : sum n f ≤ 0) : ∀ i, i < n → f i = 0 := by
  induction n with
  | zero => intro i hi; omega
  | succ n ih =>
    have h1 := sum_nonneg (n := n) fun i hi => h i (by omega)
    have h2 := h n (by omega)
    have h3 : sum n f + f n ≤ 0 := h0
    intro i hi
    by_cases c : i < n
    · exact ih (fun i hi => h i (by omega)) (by grind) i c
    · have : i = n := by omega
      subst this
      grind
theorem sq_nonneg (x : Rat) : 0 ≤ x * x := by
  rcases Rat.le_total (a := 0) (b := x) with h | h
  · exact Rat.mul_nonneg h h
  · have := Rat.mul_nonneg (show 0 ≤ -x by grind) (show 0 ≤ -x by grind)
    grind
theorem sq_zero {x : Rat} (h : x * x = 0) : x = 0 := by
  rcases Rat.mul_eq_zero.mp h with h | h <;> exact h
/-- step i: from place i to place i + 1 -/
def st (x : Nat → Rat) (i : Nat) : Rat := x (i + 1) - x i
/-- parts: z being 0 at both ends -/
theorem by_parts (c z : Nat → Rat) (m : Nat) : sum (m + 1) (fun i => c i * st z i) = c m * z (m + 1) - c 0 * z 0 + sum m (fun i => z (i + 1) * (c i - c (i + 1))) := by
  induction m with
  | zero =>
    show (0 : Rat) + c 0 * (z 1 - z 0) = c 0 * z 1 - c 0 * z 0 + 0
    grind
  | succ m ih =>
    show sum (m + 1) (fun i => c i * st z i) + c (m + 1) * (z (m + 1 + 1) - z (m + 1)) = c (m + 1) * z (m + 1 + 1) - c 0 * z 0 + (sum m (fun i => z (i + 1) * (c i - c (i + 1))) + z (m + 1) * (c m - c (m + 1)))
    rw [ih]
    grind
structure Bd (n : Nat) (lo hi : Nat → Rat) : Prop where
  two : 2 ≤ n
  le : ∀ i, i < n → lo i ≤ hi i
  e0 : lo 0 = hi 0
  e1 : lo (n - 1) = hi (n - 1)
def Wi (n : Nat) (lo hi x : Nat → Rat) : Prop := ∀ i, i < n → lo i ≤ x i ∧ x i ≤ hi i
/-- at the inner place i + 1 -/
def LevAt (lo hi x : Nat → Rat) (i : Nat) : Prop := (st x (i + 1) < st x i → x (i + 1) = lo (i + 1)) ∧ (st x i < st x (i + 1) → x (i + 1) = hi (i + 1))
def Lev (n : Nat) (lo hi x : Nat → Rat) : Prop := ∀ i, i + 2 < n → LevAt lo hi x i
variable {n : Nat} {lo hi x y : Nat → Rat}
/-- what rises with the steps of the level run, times the other run's steps less its -/
theorem pull (B : Bd n lo hi) (hx : Wi n lo hi x) (hl : Lev n lo hi x) (hy : Wi n lo hi y) (c : Nat → Rat) (hc : ∀ i j, i + 1 < n → j + 1 < n → st x i ≤ st x j → c i ≤ c j) : 0 ≤ sum (n - 1) (fun i => c i * st (fun k => y k - x k) i) := by
  obtain ⟨m, rfl⟩ : ∃ m, n = m + 2 := ⟨n - 2, by have := B.two; omega⟩
  show 0 ≤ sum (m + 1) _
  rw [by_parts]
  have z0 : y 0 - x 0 = 0 := by
    have a := hx 0 (by omega); have b := hy 0 (by omega); have e := B.e0
    grind
  have z1 : y (m + 1) - x (m + 1) = 0 := by
    have a := hx (m + 1) (by omega); have b := hy (m + 1) (by omega); have e := B.e1
    rw [show m + 2 - 1 = m + 1 by omega] at e
    grind
  have : 0 ≤ sum m (fun i => (fun k => y k - x k) (i + 1) * (c i - c (i + 1))) := by
    refine sum_nonneg fun i hi => ?_
    have hL := hl i (by omega)
    have a := hx (i + 1) (by omega)
    have b := hy (i + 1) (by omega)
    rcases Rat.le_total (a := st x i) (b := st x (i + 1)) with h | h
    · have hcc := hc i (i + 1) (by omega) (by omega) h
      by_cases e : st x i = st x (i + 1)
      · have h2 := hc (i + 1) i (by omega) (by omega) (by rw [e]; exact Rat.le_refl)
        have : c i - c (i + 1) = 0 := by grind
        rw [this, Rat.mul_zero]
        exact Rat.le_refl
      · have ex := hL.2 (by grind)
        have := Rat.mul_nonneg (show 0 ≤ -(y (i + 1) - x (i + 1)) by grind) (show 0 ≤ -(c i - c (i + 1)) by grind)
        show 0 ≤ (y (i + 1) - x (i + 1)) * (c i - c (i + 1))
        grind
    · have hcc := hc (i + 1) i (by omega) (by omega) h
      by_cases e : st x i = st x (i + 1)
      · have h2 := hc i (i + 1) (by omega) (by omega) (by rw [e]; exact Rat.le_refl)
        have : c i - c (i + 1) = 0 := by grind
        rw [this, Rat.mul_zero]
        exact Rat.le_refl
      · have ex := hL.1 (by grind)
        exact Rat.mul_nonneg (show 0 ≤ y (i + 1) - x (i + 1) by grind) (show 0 ≤ c i - c (i + 1) by grind)
  simp only [z0, z1, Rat.mul_zero]
  grind
def sq (n : Nat) (x : Nat → Rat) : Rat := sum (n - 1) fun i => st x i * st x i
theorem sq_split (B : Bd n lo hi) (hx : Wi n lo hi x) (hl : Lev n lo hi x) (hy : Wi n lo hi y) : sq n x + sum (n - 1) (fun i => st (fun k => y k - x k) i * st (fun k => y k - x k) i) ≤ sq n y := by
  have h := pull B hx hl hy (fun i => st x i) fun i j _ _ h => h
  have e : sq n y = sq n x + (2 * sum (n - 1) (fun i => st x i * st (fun k => y k - x k) i) + sum (n - 1) (fun i => st (fun k => y k - x k) i * st (fun k => y k - x k) i)) := by
    unfold sq
    rw [← sum_mul, ← sum_add, ← sum_add]
    refine sum_congr fun i _ => ?_
    unfold st
    grind
  grind
theorem diff_zero {z : Nat → Rat} {m : Nat} (h0 : z 0 = 0) (h : ∀ i, i < m → st z i = 0) : ∀ i, i ≤ m → z i = 0
  | 0, _ => h0
  | i + 1, hi => by
    have h1 := diff_zero h0 h i (by omega)
    have h2 : z (i + 1) - z i = 0 := h i (by omega)
    grind
theorem ends_same (B : Bd n lo hi) (hx : Wi n lo hi x) (hy : Wi n lo hi y) : y 0 - x 0 = 0 := by
  have a := hx 0 (by have := B.two; omega); have b := hy 0 (by have := B.two; omega); have e := B.e0
  grind
/-- no other one costs as little -/
theorem least (B : Bd n lo hi) (hx : Wi n lo hi x) (hl : Lev n lo hi x) (hy : Wi n lo hi y) : sq n x ≤ sq n y ∧ (sq n y ≤ sq n x → ∀ i, i < n → y i = x i) := by
  have h := sq_split B hx hl hy
  have h2 := sum_nonneg (n := n - 1) (f := fun i => st (fun k => y k - x k) i * st (fun k => y k - x k) i) fun i _ => sq_nonneg _
  refine ⟨by grind, fun hle i hi => ?_⟩
  have h3 := sum_zero (n := n - 1) (f := fun i => st (fun k => y k - x k) i * st (fun k => y k - x k) i) (fun i _ => sq_nonneg _) (by grind)
  have h4 := diff_zero (z := fun k => y k - x k) (m := n - 1) (ends_same B hx hy) (fun i hi => sq_zero (h3 i hi)) i (by omega)
  grind
theorem unique (B : Bd n lo hi) (hx : Wi n lo hi x) (hl : Lev n lo hi x) (hy : Wi n lo hi y) (hl2 : Lev n lo hi y) : ∀ i, i < n → y i = x i :=
  (least B hx hl hy).2 (least B hy hl2 hx).1
/-- half way it costs less -/
theorem half (B : Bd n lo hi) (hx : Wi n lo hi x) (hl : Lev n lo hi x) (hy : Wi n lo hi y) (t : Rat) (t0 : 0 ≤ t) (t1 : t < 1) (hne : ∃ i, i < n ∧ y i ≠ x i) : sq n (fun k => x k + t * (y k - x k)) < sq n y := by
  have h := pull B hx hl hy (fun i => st x i) fun i j _ _ h => h
  have e : sq n y = sq n x + (2 * sum (n - 1) (fun i => st x i * st (fun k => y k - x k) i) + sum (n - 1) (fun i => st (fun k => y k - x k) i * st (fun k => y k - x k) i)) := by
    unfold sq
    rw [← sum_mul, ← sum_add, ← sum_add]
    refine sum_congr fun i _ => ?_
    unfold st
    grind
  have e2 : sq n (fun k => x k + t * (y k - x k)) = sq n x + (2 * t * sum (n - 1) (fun i => st x i * st (fun k => y k - x k) i) + t * t * sum (n - 1) (fun i => st (fun k => y k - x k) i * st (fun k => y k - x k) i)) := by
    unfold sq
    rw [← sum_mul, ← sum_mul, ← sum_add, ← sum_add]
    refine sum_congr fun i _ => ?_
    unfold st
    grind
  have h2 := sum_nonneg (n := n - 1) (f := fun i => st (fun k => y k - x k) i * st (fun k => y k - x k) i) fun i _ => sq_nonneg _
  have h3 : 0 < sum (n - 1) (fun i => st (fun k => y k - x k) i * st (fun k => y k - x k) i) := by
    by_cases c : sum (n - 1) (fun i => st (fun k => y k - x k) i * st (fun k => y k - x k) i) ≤ 0
    · have h4 := sum_zero (n := n - 1) (f := fun i => st (fun k => y k - x k) i * st (fun k => y k - x k) i) (fun i _ => sq_nonneg _) c
      obtain ⟨i, hi, hne⟩ := hne
      have h5 := diff_zero (z := fun k => y k - x k) (m := n - 1) (ends_same B hx hy) (fun i hi => sq_zero (h4 i hi)) i (by omega)
      exact (hne (by grind)).elim
    · grind
  generalize sum (n - 1) (fun i => st x i * st (fun k => y k - x k) i) = a at *
  generalize sum (n - 1) (fun i => st (fun k => y k - x k) i * st (fun k => y k - x k) i) = b at *
  have k1 := Rat.mul_nonneg (show 0 ≤ 1 - t by grind) h
  have k2 : t * t ≤ t := by
    have := Rat.mul_nonneg t0 (show 0 ≤ 1 - t by grind)
    grind
  have k3 : t * t < 1 := by grind
  have k4 := Rat.mul_pos (show 0 < 1 - t * t by grind) h3
  rw [e, e2]
  grind
end LV
end FL
/-! LV2: the cord that is drawn from touch to touch is level -/
namespace FL
namespace LV
theorem le_div {s c d : Rat} (hd : 0 < d) : s ≤ c / d ↔ s * d ≤ c := by
  have e : c / d * d = c := Rat.div_mul_cancel (by grind)
  constructor
  · intro h
    have := Rat.mul_le_mul_of_nonneg_right h (show 0 ≤ d by grind)
    grind
  · intro h
    by_cases c2 : s ≤ c / d
    · exact c2
    · have := Rat.mul_lt_mul_of_pos_right (show c / d < s by grind) hd
      grind
theorem div_le {s c d : Rat} (hd : 0 < d) : c / d ≤ s ↔ c ≤ s * d := by
  have e : c / d * d = c := Rat.div_mul_cancel (by grind)
  constructor
  · intro h
    have := Rat.mul_le_mul_of_nonneg_right h (show 0 ≤ d by grind)
    grind
  · intro h
    by_cases c2 : c / d ≤ s
    · exact c2
    · have := Rat.mul_lt_mul_of_pos_right (show s < c / d by grind) hd
      grind
theorem lt_div {s c d : Rat} (hd : 0 < d) : s < c / d ↔ s * d < c := by
  have := div_le (s := s) (c := c) hd
  constructor <;> intro h <;> grind
theorem div_lt {s c d : Rat} (hd : 0 < d) : c / d < s ↔ c < s * d := by
  have := le_div (s := s) (c := c) hd
  constructor <;> intro h <;> grind
theorem cast_pos {a r : Nat} (h : a < r) : (0 : Rat) < (r : Rat) - (a : Rat) := by
  have : ((a : Int) : Rat) < ((r : Int) : Rat) := Rat.intCast_lt_intCast.mpr (by omega)
  have e1 : ((a : Int) : Rat) = (a : Rat) := rfl
  have e2 : ((r : Int) : Rat) = (r : Rat) := rfl
  grind
theorem cast_succ (a : Nat) : ((a + 1 : Nat) : Rat) = (a : Rat) + 1 := by simp
section
variable (n : Nat) (lo hi : Nat → Rat)
/-- the next touch from the height h at the place a: at q, of height y, by the slope s -/
structure Stage (a : Nat) (h : Rat) (q : Nat) (y s : Rat) : Prop where
  lt : a < q
  ln : q < n
  at' : y = h + s * ((q : Rat) - a)
  inn : ∀ r, a < r → r ≤ q → lo r ≤ h + s * ((r : Rat) - a) ∧ h + s * ((r : Rat) - a) ≤ hi r
  why : (q + 1 = n) ∨
    (q + 1 < n ∧ y = hi q ∧ ∃ p, q < p ∧ p < n ∧ h + s * ((p : Rat) - a) < lo p ∧ ∀ r, q < r → r ≤ p → h + s * ((r : Rat) - a) < hi r) ∨
    (q + 1 < n ∧ y = lo q ∧ ∃ p, q < p ∧ p < n ∧ hi p < h + s * ((p : Rat) - a) ∧ ∀ r, q < r → r ≤ p → lo r < h + s * ((r : Rat) - a))
/-- x goes from touch to touch from a on -/
inductive Drawn (x : Nat → Rat) : Nat → Prop where
  | last : Drawn x (n - 1)
  | step {a q : Nat} {s : Rat} : Stage n lo hi a (x a) q (x q) s → (∀ r, a ≤ r → r ≤ q → x r = x a + s * ((r : Rat) - a)) → Drawn x q → Drawn x a
end
variable {n : Nat} {lo hi x : Nat → Rat}
theorem slope_gt {a q q' : Nat} {h s s' y' : Rat} (S : Stage n lo hi q h q' y' s') {p : Nat} (hp : q < p) (hn : p < n) (hl : h + s * ((p : Rat) - q) < lo p) (hh : ∀ r, q < r → r ≤ p → h + s * ((r : Rat) - q) < hi r) : s < s' := by
  have key : ∀ r, q < r → h + s * ((r : Rat) - q) < h + s' * ((r : Rat) - q) → s < s' := by
    intro r hr hlt
    by_cases c : s < s'
    · exact c
    · have := Rat.mul_le_mul_of_nonneg_right (show s' ≤ s by grind) (show 0 ≤ (r : Rat) - q by have := cast_pos hr; grind)
      grind
  by_cases c : p ≤ q'
  · have := (S.inn p hp c).1
    exact key p hp (by grind)
  · rcases S.why with w | ⟨w1, w2, _⟩ | ⟨w1, w2, p2, w3, w4, w5, w6⟩
    · omega
    · have h1 := hh q' S.lt (by omega)
      have h2 := S.at'
      exact key q' S.lt (by grind)
    · by_cases c2 : p ≤ p2
      · have h1 := w6 p (by omega) c2
        exact key p hp (by grind)
      · have h1 := hh p2 (by have := S.lt; omega) (by omega)
        exact key p2 (by have := S.lt; omega) (by grind)
theorem slope_lt {a q q' : Nat} {h s s' y' : Rat} (S : Stage n lo hi q h q' y' s') {p : Nat} (hp : q < p) (hn : p < n) (hl : hi p < h + s * ((p : Rat) - q)) (hh : ∀ r, q < r → r ≤ p → lo r < h + s * ((r : Rat) - q)) : s' < s := by
  have key : ∀ r, q < r → h + s' * ((r : Rat) - q) < h + s * ((r : Rat) - q) → s' < s := by
    intro r hr hlt
    by_cases c : s' < s
    · exact c
    · have := Rat.mul_le_mul_of_nonneg_right (show s ≤ s' by grind) (show 0 ≤ (r : Rat) - q by have := cast_pos hr; grind)
      grind
  by_cases c : p ≤ q'
  · have := (S.inn p hp c).2
    exact key p hp (by grind)
  · rcases S.why with w | ⟨w1, w2, p2, w3, w4, w5, w6⟩ | ⟨w1, w2, _⟩
    · omega
    · by_cases c2 : p ≤ p2
      · have h1 := w6 p (by omega) c2
        exact key p hp (by grind)
      · have h1 := hh p2 (by have := S.lt; omega) (by omega)
        exact key p2 (by have := S.lt; omega) (by grind)
    · have h1 := hh q' S.lt (by omega)
      have h2 := S.at'
      exact key q' S.lt (by grind)
theorem drawn_in {a : Nat} (D : Drawn n lo hi x a) : ∀ r, a < r → r < n → lo r ≤ x r ∧ x r ≤ hi r := by
  induction D with
  | last => intro r h1 h2; omega
  | @step a q s S hx _ ih =>
    intro r h1 h2
    by_cases c : r ≤ q
    · rw [hx r (by omega) c]
      exact S.inn r h1 c
    · exact ih r (by omega) h2
/-- the first step behind a -/
theorem drawn_st {a : Nat} (D : Drawn n lo hi x a) (ha : a + 1 < n) : ∃ q s, Stage n lo hi a (x a) q (x q) s ∧ st x a = s := by
  cases D with
  | last => omega
  | @step _ q s S hx _ =>
    refine ⟨q, s, S, ?_⟩
    have := hx (a + 1) (by omega) S.lt
    unfold st
    rw [this, cast_succ]
    grind
theorem drawn_lev {a : Nat} (D : Drawn n lo hi x a) : ∀ i, a ≤ i → i + 2 < n → LevAt lo hi x i := by
  induction D with
  | last => intro i h1 h2; omega
  | @step a q s S hx D ih =>
    intro i h1 h2
    by_cases c : q ≤ i
    · exact ih i c h2
    · have e1 : st x i = s := by
        unfold st
        rw [hx (i + 1) (by omega) (by omega), hx i (by omega) (by omega), cast_succ]
        grind
      by_cases c2 : i + 2 ≤ q
      · have e2 : st x (i + 1) = s := by
          unfold st
          rw [hx (i + 1 + 1) (by omega) (by omega), hx (i + 1) (by omega) (by omega), cast_succ]
          grind
        unfold LevAt
        rw [e1, e2]
        constructor <;> intro h <;> grind
      · have hq : q = i + 1 := by omega
        subst hq
        obtain ⟨q', s', S', e2⟩ := drawn_st D (by omega)
        unfold LevAt
        rw [e1, e2]
        have ey := S.at'
        rcases S.why with w | ⟨_, w2, p, w3, w4, w5, w6⟩ | ⟨_, w2, p, w3, w4, w5, w6⟩
        · omega
        · have := slope_gt (a := a) (s := s) S' w3 w4 (by grind) (fun r h1 h2 => by have := w6 r h1 h2; grind)
          exact ⟨fun h => by grind, fun _ => w2⟩
        · have := slope_lt (a := a) (s := s) S' w3 w4 (by grind) (fun r h1 h2 => by have := w6 r h1 h2; grind)
          exact ⟨fun _ => w2, fun h => by grind⟩
theorem drawn_level (B : Bd n lo hi) (D : Drawn n lo hi x 0) (h0 : x 0 = lo 0) : Wi n lo hi x ∧ Lev n lo hi x := by
  refine ⟨fun i hi' => ?_, fun i hi' => drawn_lev D i (Nat.zero_le _) hi'⟩
  by_cases c : i = 0
  · subst c
    have := B.e0
    constructor <;> grind
  · exact drawn_in D i (by omega) hi'
/-! the search for the next touch -/
def up (hi : Nat → Rat) (a : Nat) (h : Rat) (r : Nat) : Rat := (hi r - h) / ((r : Rat) - a)
/-- what has been seen up to p -/
structure Scan (lo hi : Nat → Rat) (a : Nat) (h : Rat) (p : Nat) (u : Rat) (i : Nat) (v : Rat) (j : Nat) : Prop where
  i1 : a < i
  i2 : i < p
  iu : u = up hi a h i
  iall : ∀ r, a < r → r < p → u ≤ up hi a h r
  ilate : ∀ r, i < r → r < p → u < up hi a h r
  j1 : a < j
  j2 : j < p
  jv : v = up lo a h j
  jall : ∀ r, a < r → r < p → up lo a h r ≤ v
  jlate : ∀ r, j < r → r < p → up lo a h r < v
  vu : v ≤ u
variable {a p i j : Nat} {h u v : Rat}
theorem up_le (hle : ∀ r, r < n → lo r ≤ hi r) {r : Nat} (h1 : a < r) (h2 : r < n) : up lo a h r ≤ up hi a h r := by
  have := cast_pos h1
  unfold up
  rw [le_div this, Rat.div_mul_cancel (by grind)]
  have := hle r h2
  grind
theorem scan_first (hle : ∀ r, r < n → lo r ≤ hi r) (hn : a + 1 < n) : Scan lo hi a h (a + 2) (up hi a h (a + 1)) (a + 1) (up lo a h (a + 1)) (a + 1) := by
  refine ⟨by omega, by omega, rfl, fun r h1 h2 => ?_, fun r h1 h2 => by omega, by omega, by omega, rfl, fun r h1 h2 => ?_, fun r h1 h2 => by omega, up_le hle (by omega) hn⟩
  · rw [show r = a + 1 by omega]; exact Rat.le_refl
  · rw [show r = a + 1 by omega]; exact Rat.le_refl
theorem scan_in (S : Scan lo hi a h p u i v j) {s : Rat} (h1 : v ≤ s) (h2 : s ≤ u) : ∀ r, a < r → r < p → lo r ≤ h + s * ((r : Rat) - a) ∧ h + s * ((r : Rat) - a) ≤ hi r := by
  intro r h3 h4
  have hp := cast_pos h3
  have a1 := S.jall r h3 h4
  have a2 := S.iall r h3 h4
  have b1 := (div_le hp).mp (show up lo a h r ≤ s by grind)
  have b2 := (le_div hp).mp (show s ≤ up hi a h r by grind)
  constructor <;> grind
theorem up_at {f : Nat → Rat} {r : Nat} (h1 : a < r) : f r = h + up f a h r * ((r : Rat) - a) := by
  have hp := cast_pos h1
  unfold up
  rw [Rat.div_mul_cancel (by grind)]
  grind
theorem scan_stopA (hle : ∀ r, r < n → lo r ≤ hi r) (S : Scan lo hi a h p u i v j) (hp : p < n) (hs : u < up lo a h p) : Stage n lo hi a h i (hi i) u := by
  have i1 := S.i1
  have i2 := S.i2
  refine ⟨i1, by omega, by rw [S.iu]; exact up_at i1, fun r h1 h2 => scan_in S S.vu Rat.le_refl r h1 (by omega), .inr (.inl ⟨by omega, rfl, p, i2, hp, ?_, fun r h1 h2 => ?_⟩)⟩
  · have := (lt_div (cast_pos (show a < p by omega))).mp hs
    grind
  · have h3 : u < up hi a h r := by
      by_cases c : r < p
      · exact S.ilate r h1 c
      · rw [show r = p by omega]
        have := up_le (lo := lo) (hi := hi) (a := a) (h := h) hle (show a < p by omega) hp
        grind
    have := (lt_div (cast_pos (show a < r by omega))).mp h3
    grind
theorem scan_stopB (hle : ∀ r, r < n → lo r ≤ hi r) (S : Scan lo hi a h p u i v j) (hp : p < n) (hs : up hi a h p < v) : Stage n lo hi a h j (lo j) v := by
  have j1 := S.j1
  have j2 := S.j2
  refine ⟨j1, by omega, by rw [S.jv]; exact up_at j1, fun r h1 h2 => scan_in S Rat.le_refl S.vu r h1 (by omega), .inr (.inr ⟨by omega, rfl, p, j2, hp, ?_, fun r h1 h2 => ?_⟩)⟩
  · have := (div_lt (cast_pos (show a < p by omega))).mp hs
    grind
  · have h3 : up lo a h r < v := by
      by_cases c : r < p
      · exact S.jlate r h1 c
      · rw [show r = p by omega]
        have := up_le (lo := lo) (hi := hi) (a := a) (h := h) hle (show a < p by omega) hp
        grind
    have := (div_lt (cast_pos (show a < r by omega))).mp h3
    grind
theorem scan_next (hle : ∀ r, r < n → lo r ≤ hi r) (S : Scan lo hi a h p u i v j) (hp : p < n) (h1 : ¬ u < up lo a h p) (h2 : ¬ up hi a h p < v) :
    Scan lo hi a h (p + 1) (if u < up hi a h p then u else up hi a h p) (if u < up hi a h p then i else p) (if up lo a h p < v then v else up lo a h p) (if up lo a h p < v then j else p) := by
  have i1 := S.i1
  have i2 := S.i2
  have j1 := S.j1
  have j2 := S.j2
  have hpp := up_le (lo := lo) (hi := hi) (a := a) (h := h) hle (show a < p by omega) hp
  have vu := S.vu
  constructor
  · split <;> omega
  · split <;> omega
  · split
    · exact S.iu
    · rfl
  · intro r h3 h4
    by_cases c : r < p
    · have := S.iall r h3 c
      split <;> grind
    · rw [show r = p by omega]
      split <;> grind
  · intro r h3 h4
    by_cases c : r < p
    · split at h3
      · rename_i c2
        rw [if_pos c2]
        exact S.ilate r h3 c
      · omega
    · have : r = p := by omega
      subst this
      split at h3
      · rename_i c2
        rw [if_pos c2]
        exact c2
      · omega
  · split <;> omega
  · split <;> omega
  · split
    · exact S.jv
    · rfl
  · intro r h3 h4
    by_cases c : r < p
    · have := S.jall r h3 c
      split <;> grind
    · rw [show r = p by omega]
      split <;> grind
  · intro r h3 h4
    by_cases c : r < p
    · split at h3
      · rename_i c2
        rw [if_pos c2]
        exact S.jlate r h3 c
      · omega
    · have : r = p := by omega
      subst this
      split at h3
      · rename_i c2
        rw [if_pos c2]
        exact c2
      · omega
  · split <;> split <;> grind
theorem scan_end (B : Bd n lo hi) (S : Scan lo hi a h n u i v j) : Stage n lo hi a h (n - 1) (lo (n - 1)) (up lo a h (n - 1)) := by
  have i1 := S.i1
  have i2 := S.i2
  have e : up lo a h (n - 1) = up hi a h (n - 1) := by unfold up; rw [B.e1]
  have h1 : v ≤ up lo a h (n - 1) := by
    rw [e]
    have := S.iall (n - 1) (by omega) (by omega)
    have := S.vu
    grind
  have h2 : up lo a h (n - 1) ≤ u := by
    have := S.jall (n - 1) (by omega) (by omega)
    have := S.vu
    grind
  exact ⟨by omega, by omega, up_at (by omega), fun r h3 h4 => scan_in S h1 h2 r h3 (by omega), .inl (by omega)⟩
end LV
end FL
namespace FL
open PySem PySem.Spec L2
local macro_rules | `(tactic| walk_at "go") => `(tactic| with_reducible first
  | refine wp_seq ?_ | refine wp_sIf ?_ | refine wp_ret ?_ | refine wp_set ?_ | refine wp_asg ?_ | refine wp_setL ?_ | refine wp_retL ?_ | refine wp_expr ?_
  | refine wp_2 ?_ | refine wp_1 ?_ | refine wp_C ?_ | refine wp_xB ?_ | refine wp_cons ?_ | refine wp_P ?_ | refine wp_xT ?_ | refine wp_tru ?_ | refine wp_tup ?_ | refine wp_lst ?_ | refine wp_fz ?_ | refine wp_oInt ?_ | refine wp_cut ?_
  | refine wp_and ?_ | refine wp_or ?_ | refine wp_not ?_ | refine wp_tAnd ?_ | refine wp_tOr ?_ | refine wp_tNot ?_ | refine wp_xIf ?_ | refine wp_chain ?_ | refine wp_par2 ?_ | refine wp_par3 ?_ | refine wp_parN ?_ | refine wp_pVal ?_ | refine wp_pNew ?_
  | refine wp_lB ?_ | refine wp_iOf ?_ | refine wp_iRow ?_ | refine wp_for ?_ | refine wp_forc ?_ | refine wp_forn ?_ | refine wp_gsCons ?_ | refine wp_gsNil ?_ | refine wp_its0 ?_ | refine wp_aVal ?_
  | refine fl_nx ?_ | refine fl_rt ?_ | refine fl_rtL ?_ | refine fl_co ?_ | refine fl_br ?_ | refine br_t ?_ | refine br_f ?_ | refine br_t' ?_ | refine br_f' ?_ | refine br_n ?_ | refine br_n' ?_ | refine en_rt ?_ | refine en_rtL ?_ | refine in_nx ?_ | refine in_co ?_ | refine it_nx ?_ | refine it_co ?_ | refine it_rt ?_ | refine it_br ?_ | refine ex_bl ?_ | refine ex_int ?_)
local macro_rules | `(tactic| walk_at "sd") => `(tactic| first
  | ((with_reducible refine' wp_var ?e ?_); case e => rfl)
  | ((with_reducible refine' wp_gsTup ?e ?_); case e => rfl)
  | ((with_reducible refine' wp_setv ?e ?_); (case e => exact Nat.le_of_ble_eq_true rfl); try dsimp only [List.set])
  | ((with_reducible refine' wp_itsV ?e ?_); (case e => exact Nat.le_of_ble_eq_true rfl); try dsimp only [List.set])
  | ((with_reducible refine' wp_itsN ?e ?_); (case e => exact Nat.le_of_ble_eq_true rfl); try dsimp only [List.set])
  | ((with_reducible refine' wp_lend' ?e ?_); case e => rfl)
  | ((with_reducible refine' wp_gsSub ?h ?c); case c => exact ⟨_, _, rfl⟩)
  | ((with_reducible refine' wp_late ?e ?_); case e => exact ⟨_, _, rfl⟩))
local macro_rules | `(tactic| walk_at "ex") => `(tactic| first
  | ((with_reducible refine' ex_sub ?e ?f ?_); (case e => rfl); (case f => rfl); try dsimp only [List.set])
  | ((with_reducible refine' ex_sb ?e ?_); case e => rfl)
  | ((with_reducible refine' ex_so ?e ?_); case e => rfl)
  | ((with_reducible refine' ex_p2 ?e ?f ?_); (case e => exact Nat.le_of_ble_eq_true rfl); (case f => exact Nat.le_of_ble_eq_true rfl); try dsimp only [List.set])
  | ((with_reducible refine' ex_p3 ?e ?f ?g ?_); (case e => exact Nat.le_of_ble_eq_true rfl); (case f => exact Nat.le_of_ble_eq_true rfl); (case g => exact Nat.le_of_ble_eq_true rfl); try dsimp only [List.set])
  | ((with_reducible refine' And.intro ?e ?_); (case e => rfl))
  | ((with_reducible refine' And.intro ?e ?_); (case e => exact Nat.le_of_ble_eq_true rfl); try dsimp only [List.set]))
local macro_rules | `(tactic| walk_at "op") => `(tactic| first
  | (with_reducible refine' wp_O (eq_int _ _) ?_)
  | (with_reducible refine' wp_O (ne_int _ _) ?_)
  | (with_reducible refine' wp_O (eq_bl _ _) ?_)
  | ((with_reducible refine' wp_O (mul_ok (small _ ?e) (small _ ?f)) ?_); (case e => omega); (case f => omega))
  | ((with_reducible refine' wp_O (mod_ok ?e) ?_); case e => omega)
  | ((with_reducible refine' wp_O (div_ok ?e (small _ ?f)) ?_); (case e => omega); case f => omega)
  | ((with_reducible refine' wp_O (dm_ok ?e ?f) ?_); (case e => omega); case f => omega)
  | ((with_reducible refine' wp_O ?e ?_); case e => rfl))
local macro_rules | `(tactic| walk_at "to") => `(tactic| repeat (first | walk_at "go" | walk_at "sd" | walk_at "ex"))
local macro_rules | `(tactic| walk_at "do") => `(tactic| repeat (first | walk_at "go" | walk_at "sd" | walk_at "op" | walk_at "ex"))
def Well (k : Int) (ds : List D) : Prop := ∃ a s c : Int, ds = [.int a, .int s, .int c] ∧ 0 ≤ a ∧ 0 ≤ s ∧ s < 2147483648 ∧ 0 ≤ c ∧ c ≤ k
theorem f_take {a s c m : Int} (h1 : 0 ≤ a) (h2 : 0 ≤ s) (h3 : s < 2147483648) (h4 : 0 ≤ c) (hk : (c + 1).natAbs < 2 ^ 4096) (m1 : 1 ≤ m) (m2 : m ≤ 65536) {Q : D → List Ent → Prop} (q : ∀ t a s c', 0 ≤ t → t < m → 0 ≤ a → 0 ≤ s → s < 2147483648 → 0 ≤ c' → c' ≤ c + 1 → Q (.int t) [.cel .io [.int a, .int s, .int c']]) : WpF F__law_take (ioArgs [] [.int a, .int s, .int c] [.int m]) Q := by
  refine wp_defI ?_
  unfold B__law_take
  show Wp _ [.cel .io [.int a, .int s, .int c], .val (.int m), .no] _
  walk_at "do"
  refine br_d (fun g => ?_) (fun g => ?_)
  · walk_at "do"
    refine en_rtI rfl ?_
    exact q _ _ _ _ (Int.emod_nonneg _ (by omega)) (Int.emod_lt_of_pos _ (by omega)) (Int.ediv_nonneg h1 (by omega)) h2 h3 h4 (by omega)
  · walk_at "do"
    refine wp_O (mul_ok hk (small _ (by decide))) ?_
    walk_at "do"
    refine en_rtI rfl ?_
    exact q _ _ _ _ (Int.emod_nonneg _ (by omega)) (Int.emod_lt_of_pos _ (by omega)) h1 (Int.emod_nonneg _ (by omega)) (Int.lt_trans (Int.emod_lt_of_pos _ (by omega)) (by omega)) (by omega) (by omega)
theorem cut_mem {l : List D} {lo hi : Option Int} {x : D} (h : x ∈ cutDs l lo hi) : x ∈ l := List.mem_of_mem_drop (List.mem_of_mem_take h)
theorem cut_len {l : List D} {lo hi : Option Int} : (cutDs l lo hi).length ≤ l.length := by
  unfold cutDs
  rw [List.length_take, List.length_drop]
  omega
theorem add_lst {a b : List D} (h : a.length + b.length ≤ 100000) : addD (.lst a) (.lst b) = some (.lst (a ++ b)) := by
  show (if decide (a.length + b.length ≤ most) then _ else _) = _
  rw [if_pos (decide_eq_true (show a.length + b.length ≤ most from h))]
theorem add_tup {a b : List D} (h : a.length + b.length ≤ 100000) : addD (.tup a) (.tup b) = some (.tup (a ++ b)) := by
  show (if decide (a.length + b.length ≤ most) then _ else _) = _
  rw [if_pos (decide_eq_true (show a.length + b.length ≤ most from h))]
theorem f_well {ns : List Int} (hl : ns.length ≤ 63) {lap : Int} (l0 : 0 ≤ lap) (l1 : lap ≤ 100) {Q : D → List Ent → Prop} (q : ∀ es, Well 0 es → Q (.lst es) []) : WpF F__law_well (valsOf [.scr (ns.map .int), .int lap]) Q := by
  refine wp_defL ?_
  unfold B__law_well
  show Wp _ [.val (.scr (ns.map .int)), .val (.int lap), .no, .no, .no] _
  have main : ∀ own : Int, Wp (sSeq (sSet 3 (x2 addD (xC (.int 52027)) (x2 mulD (xC (.int 6971)) (xVar 1)))) (sSeq (sFor (iRow (x2 addD (xCut (xVar 0) (mP none) (oInt (xC (.int 8)))) (xFz (lLst (dCons (xVar 2) (mP [])))))) (setv 4) (sSet 3 (x2 modD (xB intB (dCons (x2 addD (x2 addD (x2 mulD (xVar 3) (xC (.int 44497))) (x2 modD (xB intB (dCons (xVar 4) (mP []))) (xC (.int 2147483587)))) (xC (.int 29))) (mP []))) (xC (.int 2147483563))))) (sRetL (lLst (dCons (xIf (tOrM (mT (x2 ltD (xVar 2) (xC (.int 0)))) (mT (x2 geD (xVar 2) (x2 powD (xC (.int 10)) (xC (.int 18)))))) (xB absB (dCons (xVar 2) (mP []))) (xC (.int 0))) (dCons (xVar 3) (dCons (xC (.int 0)) (mP []))))))))
      [.val (.scr (ns.map .int)), .val (.int lap), .val (.int own), .no, .no] fun fl _ => ∃ ds, fl = .rtL ds ∧ Q (.lst ds) [] := by
    intro own
    walk_at "do"
    refine wp_O (add_lst ?_) ?_
    · have := cut_len (l := ns.map D.int) (lo := none) (hi := some 8)
      rw [List.length_map] at this
      show _ + 1 ≤ _
      omega
    walk_at "do"
    refine wp_forD (fun rest r => (∀ x ∈ rest, ∃ z, x = D.int z) ∧ ∃ s e, r = [.val (.scr (ns.map .int)), .val (.int lap), .val (.int own), .val (.int s), e] ∧ 0 ≤ s ∧ s < 2147483648) ?_ ?_ _ _ ⟨?_, _, _, rfl, by omega, by omega⟩
    · rintro d ds r ⟨hd, s, e, rfl, b1, b2⟩
      obtain ⟨z, rfl⟩ := hd d (List.mem_cons_self ..)
      walk_at "do"
      exact ⟨fun x hx => hd x (List.mem_cons_of_mem _ hx), _, _, rfl, by omega, by omega⟩
    · rintro r ⟨_, s, e, rfl, b1, b2⟩
      walk_at "do"
      refine br_d' (fun g1 => ?_) (fun g1 => ?_)
      · walk_at "do"
        refine br_d (fun g2 => ?_) (fun g2 => ?_)
        · walk_at "do"
          exact q _ ⟨_, _, _, rfl, by split <;> omega, b1, b2, by omega, by omega⟩
        · walk_at "do"
          exact q _ ⟨_, _, _, rfl, by omega, b1, b2, by omega, by omega⟩
      · walk_at "do"
        exact q _ ⟨_, _, _, rfl, by split <;> omega, b1, b2, by omega, by omega⟩
    · intro x hx
      rcases List.mem_append.mp hx with h | h
      · obtain ⟨z, _, rfl⟩ := List.mem_map.mp (cut_mem h)
        exact ⟨z, rfl⟩
      · exact ⟨own, List.mem_singleton.mp h⟩
  walk_at "go"
  walk_at "go"
  walk_at "go"
  walk_at "do"
  refine br_d (fun g => ?_) (fun g => ?_)
  · have g' : lap.toNat < ns.length := by rw [List.length_map] at g; omega
    have : ixD (.scr (ns.map .int)) (.int lap) = some (.int ns[lap.toNat]) := by
      have h := atI_nat (xs := ns.map D.int) (j := lap.toNat) (v := .int ns[lap.toNat]) (by rw [List.getElem?_map, List.getElem?_eq_getElem g']; rfl)
      rw [Int.toNat_of_nonneg l0] at h
      exact h
    walk_at "to"
    refine wp_O this ?_
    walk_at "to"
    refine wp_O rfl ?_
    refine ⟨by exact Nat.le_of_ble_eq_true rfl, ?_⟩
    dsimp only [List.set]
    exact fl_nx (main _)
  · walk_at "go"
    refine ⟨by exact Nat.le_of_ble_eq_true rfl, ?_⟩
    dsimp only [List.set]
    exact fl_nx (main _)
/-- a draw: any number below -/
def t__law_take : D → TM D := fun m P _ => ∃ i : Int, m = .int i ∧ 1 ≤ i ∧ i ≤ 65536 ∧ ∀ t : Int, 0 ≤ t → t < i → P (.int t)
def tW__law_well : List D → TM Unit := fun ds P _ => ∃ (ns : List Int) (lap : Int), ds = [.scr (ns.map .int), .int lap] ∧ ns.length ≤ 63 ∧ 0 ≤ lap ∧ lap ≤ 100 ∧ P ()
theorem lenW__law_well : ∀ ds P E, tW__law_well ds P E → ds.length = 2 := fun ds P E ⟨_, _, e, _⟩ => by rw [e]; rfl
theorem wxf_of {F : List Ent → R D} {es : List Ent} {Q : D → List Ent → Prop} {E : Str → Option (Str × D) → List Ent → Prop} (h : WpF F es Q) : WxF F es Q E := by
  unfold WpF at h
  unfold WxF
  cases e : F es with
  | ok d o => rw [e] at h; exact h
  | exc c p o => rw [e] at h; exact h.elim
  | bad => rw [e] at h; exact h.elim
theorem simW__law_well : SimWell F__law_well tW__law_well := fun ds P E ⟨ns, lap, e, h1, h2, h3, p⟩ => by
  subst e
  refine wxf_of (f_well h1 h2 h3 fun es ⟨a, s, c, h⟩ => ⟨⟨es, rfl, a, s, c, h.1, by omega, by omega, by omega, by omega, by omega⟩, p⟩)
theorem sim__law_take : SimFW 2 0 F__law_take (u1 t__law_take) := fun k w pre post P E hi hw l p => by
  obtain ⟨m, e, i, rfl, h1, h2, z⟩ := u1_inv p
  cases pre with
  | cons _ _ => cases hi
  | nil =>
    cases (show post = _ from e)
    obtain ⟨a, s, c, rfl, b1, b2, b3, b4, b5⟩ := hw
    have hb : big ≤ 2 ^ 4095 := Nat.pow_le_pow_right (by decide) (by decide)
    have hb2 : (2 : Nat) ^ 4096 = 2 * 2 ^ 4095 := by rw [Nat.pow_succ, Nat.mul_comm]
    have hb3 : 2 ^ 10 ≤ (2 : Nat) ^ 4095 := Nat.pow_le_pow_right (by decide) (by decide)
    generalize (2 : Nat) ^ 4095 = bb at hb hb2 hb3
    refine wxf_of (f_take b1 b2 b3 b4 (by rw [hb2]; omega) h1 h2 fun t a s c' t0 t1 a0 s0 s1 c0 c1 => ⟨⟨_, ⟨a, s, c', rfl, a0, s0, s1, c0, by omega⟩, rfl⟩, z t t0 t1⟩)
theorem k_take {β : Type} (m : Int) (f : D → TM β) (P : β → Prop) (E : XP) : tb (t__law_take (.int m)) f P E = (1 ≤ m ∧ m ≤ 65536 ∧ ∀ t : Int, 0 ≤ t → t < m → f (.int t) P E) := by
  refine propext ⟨fun ⟨i, e, h1, h2, h3⟩ => ?_, fun ⟨h1, h2, h3⟩ => ⟨m, rfl, h1, h2, h3⟩⟩
  cases e
  exact ⟨h1, h2, h3⟩
end FL
namespace FL
open PySem PySem.Spec L2
/-- is_whole(value) -/
def t_is_whole : D → TM D := fun x_value => (tAnd (tBf isB (tCons (tp x_value) (tCons (tp (.opq (.ty "int"))) (tp [])))) (tNot (tBf isB (tCons (tp x_value) (tCons (tp (.opq (.ty "bool"))) (tp []))))))
/-- is_between(value, low, high) -/
def t_is_between : D → D → D → TM D := fun x_value x_low x_high => (tAnd (tb (tCons (tp x_value) (tp [])) (u1 t_is_whole)) (tChain leD leD (tp x_low) (tp x_value) (tp x_high)))
/-- is_tuple_of(value, many) -/
def t_is_tuple_of : D → D → TM D := fun x_value x_many => (tAnd (tBf isB (tCons (tp x_value) (tCons (tp (.opq (.ty "tuple"))) (tp [])))) (t2 eqD (tBf lenB (tCons (tp x_value) (tp []))) (tp x_many)))
/-- is_floor(value) -/
def t_is_floor : D → TM D := fun x_value => (tb (tCons (tp x_value) (tCons (t1 negD (tp (.int 9999))) (tCons (tp (.int 9999)) (tp [])))) (u3 t_is_between))
/-- first_wrong__is_floor(value, fewest, most, is_right) -/
def t_first_wrong__is_floor : D → D → D → D → TM D := fun x_value x_fewest x_most x_is_right => (tIf (ttOr (ttNot (tTru (tBf isB (tCons (tp x_value) (tCons (tp (.opq (.ty "tuple"))) (tp [])))))) (ttNot (tMT (tChain leD leD (tp x_fewest) (tBf lenB (tCons (tp x_value) (tp []))) (tp x_most))))) (tFz (tLst (tCons (tp .non) (tp [])))) (tCut (tFz (compT (tBf enum1 (tCons (tp x_value) (tp []))) (fun d => tb (tO (unTup 2 d)) (tgCons tp fun (a2 : D) => (tgCons tp fun (a3 : D) => tgNil))) (fun v1 => (ttNot (tTru (tA (x_is_right = .dfn "is_floor") (tb (tCons (tp v1.2.1) (tp [])) (u1 t_is_floor)))))) fun v1 => (tp v1.1))) (tp none) (tInt (tp (.int 1)))))
/-- fraction(number, under) -/
def t_fraction : D → D → TM D := fun x_number x_under => (tb (t2 mulD (tBf gcdB (tCons (tp x_number) (tCons (tp x_under) (tp [])))) (tIf (tMT (t2 gtD (tp x_under) (tp (.int 0)))) (tp (.int 1)) (t1 negD (tp (.int 1))))) fun x_part => (tTup (tCons (t2 divD (tp x_number) (tp x_part)) (tCons (t2 divD (tp x_under) (tp x_part)) (tp [])))))
/-- is_fraction_by(value) -/
def t_is_fraction_by : D → TM D := fun x_value => (tIf (ttOr (ttNot (tTru (tb (tCons (tp x_value) (tCons (tp (.int 2)) (tp []))) (u2 t_is_tuple_of)))) (ttOr (ttNot (tTru (tb (tCons (t2 ixD (tp x_value) (tp (.int 0))) (tp [])) (u1 t_is_whole)))) (ttOr (ttNot (tTru (tb (tCons (t2 ixD (tp x_value) (tp (.int 1))) (tp [])) (u1 t_is_whole)))) (tMT (t2 leD (t2 ixD (tp x_value) (tp (.int 1))) (tp (.int 0))))))) (tp (.bl false)) (t2 eqD (tBf gcdB (tCons (t2 ixD (tp x_value) (tp (.int 0))) (tCons (t2 ixD (tp x_value) (tp (.int 1))) (tp [])))) (tp (.int 1))))
/-- whole(number) -/
def t_whole : D → TM D := fun x_number => (tTup (tCons (tp x_number) (tCons (tp (.int 1)) (tp []))))
/-- sum_of(one, two) -/
def t_sum_of : D → D → TM D := fun x_one x_two => (tb (tCons (t2 addD (t2 mulD (t2 ixD (tp x_one) (tp (.int 0))) (t2 ixD (tp x_two) (tp (.int 1)))) (t2 mulD (t2 ixD (tp x_two) (tp (.int 0))) (t2 ixD (tp x_one) (tp (.int 1))))) (tCons (t2 mulD (t2 ixD (tp x_one) (tp (.int 1))) (t2 ixD (tp x_two) (tp (.int 1)))) (tp []))) (u2 t_fraction))
/-- less(one, two) -/
def t_less : D → D → TM D := fun x_one x_two => (tb (tCons (t2 subD (t2 mulD (t2 ixD (tp x_one) (tp (.int 0))) (t2 ixD (tp x_two) (tp (.int 1)))) (t2 mulD (t2 ixD (tp x_two) (tp (.int 0))) (t2 ixD (tp x_one) (tp (.int 1))))) (tCons (t2 mulD (t2 ixD (tp x_one) (tp (.int 1))) (t2 ixD (tp x_two) (tp (.int 1)))) (tp []))) (u2 t_fraction))
/-- is_less(one, two) -/
def t_is_less : D → D → TM D := fun x_one x_two => (t2 ltD (t2 mulD (t2 ixD (tp x_one) (tp (.int 0))) (t2 ixD (tp x_two) (tp (.int 1)))) (t2 mulD (t2 ixD (tp x_two) (tp (.int 0))) (t2 ixD (tp x_one) (tp (.int 1)))))
/-- total(some) -/
def t_total : D → TM D := fun x_some => (tb (tp (.tup [(.int 0), (.int 1)])) fun x_found => (tb (forT (tRow (tp x_some)) (σ := D) x_found fun d s1 => tb (tp d) fun x_each => (tb (tb (tCons (tp s1) (tCons (tp x_each) (tp []))) (u2 t_sum_of)) fun x_found_2 => (tp x_found_2))) fun s2 => (tp s2)))
/-- check_fraction(value) -/
def t_check_fraction : D → TM D := fun x_value => (tIf (ttNot (tTru (tb (tCons (tp x_value) (tp [])) (u1 t_is_fraction_by)))) tBad (tp .non))
/-- check_number(value, low, high) -/
def t_check_number : D → D → D → TM D := fun x_value x_low x_high => (tIf (ttNot (tTru (tb (tCons (tp x_value) (tCons (tp x_low) (tCons (tp x_high) (tp [])))) (u3 t_is_between)))) tBad (tp .non))
/-- flood_level_by(floors, poured) -/
def t_flood_level_by : D → D → TM D := fun x_floors x_poured => (tIf (tMT (t2 eqD (tp x_poured) (tp (.int 0)))) (tp .non) (tb (tFz (tBf sortB (tCons (tp x_floors) (tp [])))) fun x_low => (tb (tFz (compT (tBf range2 (tCons (tp (.int 1)) (tCons (t2 addD (tBf lenB (tCons (tp x_low) (tp []))) (tp (.int 1))) (tp [])))) tp (fun x_many => (tp true)) fun x_many => (tb (tCons (t2 addD (tp x_poured) (tBf sumB (tCons (tCut (tp x_low) (tp none) (tInt (tp x_many))) (tp [])))) (tCons (tp x_many) (tp []))) (u2 t_fraction)))) fun x_levels => (tb (forX (tBf enum2 (tCons (tCut (tp x_levels) (tp none) (tInt (t1 negD (tp (.int 1))))) (tCons (tp (.int 1)) (tp [])))) (σ := Unit) () fun d s1 => tb ((fun d => tb (tO (unTup 2 d)) (tgCons tp fun (a3 : D) => (tgCons tp fun (a4 : D) => tgNil))) d) fun v2 => (tIf (ttNot (tTru (tb (tCons (tb (tCons (t2 ixD (tp x_low) (tp v2.1)) (tp [])) (u1 t_whole)) (tCons (tp v2.2.1) (tp []))) (u2 t_is_less)))) (tb (tp v2.2.1) fun d => tp (.rt d)) (tp (Lx.go ())))) fun o => tFin o (fun d => tp d) fun s6 => (t2 ixD (tp x_levels) (t1 negD (tp (.int 1))))))))
/-- depth_at(floor, level) -/
def t_depth_at : D → D → TM D := fun x_floor x_level => (tb (tb (tCons (tp x_level) (tCons (tb (tCons (tp x_floor) (tp [])) (u1 t_whole)) (tp []))) (u2 t_less)) fun x_found => (tIf (tMT (t2 gtD (t2 ixD (tp x_found) (tp (.int 0))) (tp (.int 0)))) (tp x_found) (tp (.tup [(.int 0), (.int 1)]))))
/-- waters_by(floors, poured) -/
def t_waters_by : D → D → TM D := fun x_floors x_poured => (tb (tb (tCons (tp x_floors) (tCons (tp x_poured) (tp []))) (u2 t_flood_level_by)) fun x_level => (tBf tupB (tCons (tFz (compT (tRow (tp x_floors)) tp (fun x_floor => (tp true)) fun x_floor => (tIf (tMT (t2 notNoneD (tp x_level) (tp .non))) (tb (tCons (tp x_floor) (tCons (tp x_level) (tp []))) (u2 t_depth_at)) (tp (.tup [(.int 0), (.int 1)]))))) (tp []))))
/-- poured_for_by(floors, level) -/
def t_poured_for_by : D → D → TM D := fun x_floors x_level => (tb (tCons (tFz (compT (tRow (tp x_floors)) tp (fun x_floor => (tp true)) fun x_floor => (tb (tCons (tp x_floor) (tCons (tp x_level) (tp []))) (u2 t_depth_at)))) (tp [])) (u1 t_total))
/-- check_floors(value) -/
def t_check_floors : D → TM D := fun x_value => (tb (forT (tRow (tb (tCons (tp x_value) (tCons (tp (.int 1)) (tCons (tp (.int 9)) (tCons (tp (.dfn "is_floor")) (tp []))))) (u4 t_first_wrong__is_floor))) (σ := Unit) () fun d s1 => tb (tp d) fun x_index => tBad) fun s2 => (tp .non))
/-- check_flood(floors, number) -/
def t_check_flood : D → D → TM D := fun x_floors x_number => (tb (tb (tCons (tp x_floors) (tp [])) (u1 t_check_floors)) fun _ => (tb (tb (tCons (tp x_number) (tCons (tp (.int 0)) (tCons (tp (.int 9999)) (tp [])))) (u3 t_check_number)) fun _ => (tp .non)))
/-- waters(floors, number) -/
def t_waters : D → D → TM D := fun x_floors x_number => (tb (tb (tCons (tp x_floors) (tCons (tp x_number) (tp []))) (u2 t_check_flood)) fun _ => (tb (tCons (tp x_floors) (tCons (tp x_number) (tp []))) (u2 t_waters_by)))
/-- flood_level(floors, number) -/
def t_flood_level : D → D → TM D := fun x_floors x_number => (tb (tb (tCons (tp x_floors) (tCons (tp x_number) (tp []))) (u2 t_check_flood)) fun _ => (tb (tCons (tp x_floors) (tCons (tp x_number) (tp []))) (u2 t_flood_level_by)))
/-- poured_for(floors, fraction) -/
def t_poured_for : D → D → TM D := fun x_floors x_fraction => (tb (tb (tCons (tp x_floors) (tp [])) (u1 t_check_floors)) fun _ => (tb (tb (tCons (tp x_fraction) (tp [])) (u1 t_check_fraction)) fun _ => (tb (tCons (tp x_floors) (tCons (tp x_fraction) (tp []))) (u2 t_poured_for_by))))
/-- _law_of(well, things) -/
def t__law_of : D → TM D := fun x_things => (t2 ixD (tp x_things) (tb (tCons (tBf lenB (tCons (tp x_things) (tp []))) (tp [])) (u1 t__law_take)))
/-- _law_same(told, due) -/
def t__law_same : Nat → D → D → TM D
  | 0 => fun _ _ => tBad
  | n + 1 => fun x_told x_due => (tIf (ttOr (ttAnd (tTru (tBf isB (tCons (tp x_due) (tCons (tp (.opq (.ty "tuple"))) (tp []))))) (ttNot (tTru (tBf isB (tCons (tp x_told) (tCons (tp (.opq (.ty "tuple"))) (tp []))))))) (ttAnd (tTru (tBf isB (tCons (tp x_due) (tCons (tp (.opq (.ty "list"))) (tp []))))) (ttNot (tTru (tBf isB (tCons (tp x_told) (tCons (tp (.opq (.ty "list"))) (tp [])))))))) (tp (.bl false)) (tIf (tTru (tIsT ["tuple", "list"] (tp x_due))) (tAnd (t2 eqD (tBf lenB (tCons (tp x_told) (tp []))) (tBf lenB (tCons (tp x_due) (tp [])))) (tBf allB (tCons (tFz (compT (tBf range1 (tCons (tBf lenB (tCons (tp x_due) (tp []))) (tp []))) tp (fun x_at => (tp true)) fun x_at => (tb (tCons (t2 ixD (tp x_told) (tp x_at)) (tCons (t2 ixD (tp x_due) (tp x_at)) (tp []))) (u2 (t__law_same n))))) (tp [])))) (tIf (ttOr (tMT (t2 isNoneD (tp x_due) (tp .non))) (tMT (t2 isNoneD (tp x_told) (tp .non)))) (tAnd (t2 isNoneD (tp x_due) (tp .non)) (t2 isNoneD (tp x_told) (tp .non))) (tIf (ttOr (tTru (tBf isB (tCons (tp x_due) (tCons (tp (.opq (.ty "bool"))) (tp []))))) (tTru (tBf isB (tCons (tp x_told) (tCons (tp (.opq (.ty "bool"))) (tp [])))))) (tAnd (tBf isB (tCons (tp x_due) (tCons (tp (.opq (.ty "bool"))) (tp [])))) (tAnd (tBf isB (tCons (tp x_told) (tCons (tp (.opq (.ty "bool"))) (tp [])))) (t2 eqD (tp x_due) (tp x_told)))) (tIf (tTru (tBf isB (tCons (tp x_due) (tCons (tp (.opq (.ty "int"))) (tp []))))) (tAnd (tBf isB (tCons (tp x_told) (tCons (tp (.opq (.ty "int"))) (tp [])))) (t2 eqD (tp x_told) (tp x_due))) (tIf (tTru (tBf isB (tCons (tp x_due) (tCons (tp (.opq (.ty "str"))) (tp []))))) (tAnd (tBf isB (tCons (tp x_told) (tCons (tp (.opq (.ty "str"))) (tp [])))) (t2 eqD (tp x_told) (tp x_due))) (tAnd (tBf isB (tCons (tp x_due) (tCons (tp (.opq (.ty "dict"))) (tp [])))) (tAnd (tBf isB (tCons (tp x_told) (tCons (tp (.opq (.ty "dict"))) (tp [])))) (tAnd (t2 eqD (tBf lenB (tCons (tp x_told) (tp []))) (tBf lenB (tCons (tp x_due) (tp [])))) (t2 eqD (tp x_told) (tp x_due)))))))))))
/-- _law_part(one, two) -/
def t__law_part : D → D → TM D := fun x_one x_two => (tb (tIf (tMT (t2 ltD (tp x_two) (tp (.int 0)))) (tP2 (tCons (t2 subD (tp (.int 0)) (tp x_one)) (tCons (t2 subD (tp (.int 0)) (tp x_two)) (tp []))) fun x_one_2 x_two_2 => (tp (x_one_2, x_two_2))) (tp (x_one, x_two))) fun (v1 : D × D) => (tP2 (tCons (tBf absB (tCons (tp v1.1) (tp []))) (tCons (tp v1.2) (tp []))) fun x_low x_high => (tb (whileT (σ := D × D) (fun s2 => (tMT (t2 gtD (tp s2.1) (tp (.int 0))))) (fun s2 => (tP2 (tCons (tp s2.1) (tCons (t2 modD (tBf intB (tCons (tp s2.2) (tp []))) (tp s2.1)) (tp []))) fun x_low_2 x_high_2 => (tp (x_high_2, x_low_2)))) 1000 (x_high, x_low)) fun s3 => (tTup (tCons (t2 divD (tp v1.1) (tp s3.2)) (tCons (t2 divD (tp v1.2) (tp s3.2)) (tp [])))))))
/-- _law_plus(one, two) -/
def t__law_plus : D → D → TM D := fun x_one x_two => (tb (tCons (t2 addD (t2 mulD (t2 ixD (tp x_one) (tp (.int 0))) (t2 ixD (tp x_two) (tp (.int 1)))) (t2 mulD (t2 ixD (tp x_two) (tp (.int 0))) (t2 ixD (tp x_one) (tp (.int 1))))) (tCons (t2 mulD (t2 ixD (tp x_one) (tp (.int 1))) (t2 ixD (tp x_two) (tp (.int 1)))) (tp []))) (u2 t__law_part))
/-- _law_less(one, two) -/
def t__law_less : D → D → TM D := fun x_one x_two => (tb (tCons (t2 subD (t2 mulD (t2 ixD (tp x_one) (tp (.int 0))) (t2 ixD (tp x_two) (tp (.int 1)))) (t2 mulD (t2 ixD (tp x_two) (tp (.int 0))) (t2 ixD (tp x_one) (tp (.int 1))))) (tCons (t2 mulD (t2 ixD (tp x_one) (tp (.int 1))) (t2 ixD (tp x_two) (tp (.int 1)))) (tp []))) (u2 t__law_part))
/-- _law_is_below(one, two) -/
def t__law_is_below : D → D → TM D := fun x_one x_two => (t2 ltD (t2 mulD (t2 ixD (tp x_one) (tp (.int 0))) (t2 ixD (tp x_two) (tp (.int 1)))) (t2 mulD (t2 ixD (tp x_two) (tp (.int 0))) (t2 ixD (tp x_one) (tp (.int 1)))))
/-- _law_total(some) -/
def t__law_total : D → TM D := fun x_some => (tb (tTup (tCons (tp (.int 0)) (tCons (tp (.int 1)) (tp [])))) fun x_found => (tb (forT (tRow (tp x_some)) (σ := D) x_found fun d s1 => tb (tp d) fun x_each => (tb (tb (tCons (tp s1) (tCons (tp x_each) (tp []))) (u2 t__law_plus)) fun x_found_2 => (tp x_found_2))) fun s2 => (tp s2)))
/-- _law_floors(well, most) -/
def t__law_floors : D → TM D := fun x_most => (tb (tb (tCons (tTup (tCons (tp (.int 3)) (tCons (tp (.int 9)) (tCons (tp (.int 9999)) (tp []))))) (tp [])) (u1 t__law_of)) fun x_great => (tBf tupB (tCons (tFz (compT (tBf range1 (tCons (t2 addD (tp (.int 1)) (tb (tCons (tp x_most) (tp [])) (u1 t__law_take))) (tp []))) tp (fun x_each => (tp true)) fun x_each => (t2 subD (tb (tCons (t2 addD (t2 mulD (tp (.int 2)) (tp x_great)) (tp (.int 1))) (tp [])) (u1 t__law_take)) (tp x_great)))) (tp []))))
/-- _law_waters(floors, poured) -/
def t__law_waters : D → D → TM D := fun x_floors x_poured => (tIf (tMT (t2 eqD (tp x_poured) (tp (.int 0)))) (tTup (tCons (tBf tupB (tCons (tFz (compT (tRow (tp x_floors)) tp (fun x_floor => (tp true)) fun x_floor => (tTup (tCons (tp (.int 0)) (tCons (tp (.int 1)) (tp [])))))) (tp []))) (tCons (tp .non) (tp [])))) (tb (tFz (tBf sortB (tCons (tp x_floors) (tp [])))) fun x_low => (tb (forX (tBf range2 (tCons (tp (.int 1)) (tCons (t2 addD (tBf lenB (tCons (tp x_low) (tp []))) (tp (.int 1))) (tp [])))) (σ := Unit) () fun d s1 => tb (tp d) fun x_many => (tb (tb (tCons (t2 addD (tp x_poured) (tBf sumB (tCons (tCut (tp x_low) (tp none) (tInt (tp x_many))) (tp [])))) (tCons (tp x_many) (tp []))) (u2 t__law_part)) fun x_level => (tIf (ttOr (tMT (t2 eqD (tp x_many) (tBf lenB (tCons (tp x_low) (tp []))))) (ttNot (tTru (tb (tCons (tTup (tCons (t2 ixD (tp x_low) (tp x_many)) (tCons (tp (.int 1)) (tp [])))) (tCons (tp x_level) (tp []))) (u2 t__law_is_below))))) (tb (tTup (tCons (tBf tupB (tCons (tFz (compT (tRow (tp x_floors)) tp (fun x_floor_2 => (tp true)) fun x_floor_2 => (tIf (tTru (tb (tCons (tTup (tCons (tp x_floor_2) (tCons (tp (.int 1)) (tp [])))) (tCons (tp x_level) (tp []))) (u2 t__law_is_below))) (tb (tCons (tp x_level) (tCons (tTup (tCons (tp x_floor_2) (tCons (tp (.int 1)) (tp [])))) (tp []))) (u2 t__law_less)) (tTup (tCons (tp (.int 0)) (tCons (tp (.int 1)) (tp []))))))) (tp []))) (tCons (tp x_level) (tp [])))) fun d => tp (.rt d)) (tp (Lx.go ()))))) fun o => tFin o (fun d => tp d) fun s2 => (tp .non))))
/-- _law_poured_for(floors, height) -/
def t__law_poured_for : D → D → TM D := fun x_floors x_height => (tb (tCons (tFz (compT (tRow (tp x_floors)) tp (fun x_floor => (tTru (tb (tCons (tTup (tCons (tp x_floor) (tCons (tp (.int 1)) (tp [])))) (tCons (tp x_height) (tp []))) (u2 t__law_is_below)))) fun x_floor => (tb (tCons (tp x_height) (tCons (tTup (tCons (tp x_floor) (tCons (tp (.int 1)) (tp [])))) (tp []))) (u2 t__law_less)))) (tp [])) (u1 t__law_total))
/-- _law_is_told(well, floors, poured, height) -/
def t__law_is_told : D → D → D → TM D := fun x_floors x_poured x_height => (tb (t2 ixD (tb (tCons (tp x_floors) (tCons (tp x_poured) (tp []))) (u2 t__law_waters)) (tp (.int 1))) fun x_due => (tb (tIf (tMT (t2 eqD (tb (tCons (tp (.int 2)) (tp [])) (u1 t__law_take)) (tp (.int 0)))) (tb (tCons (tp x_floors) (tCons (tp x_poured) (tp []))) (u2 t_flood_level)) (tb (tCons (tp x_poured) (tCons (tp x_floors) (tp []))) fun ds => tA (ds.length = 2) ((u2 t_flood_level) (ordL [1, 0] ds)))) fun x_told => (tIf (ttOr (ttNot (tTru (tb (tCons (tp x_told) (tCons (tp x_due) (tp []))) (u2 (t__law_same 10))))) (tMT (t2 neD (t2 isNoneD (tp x_told) (tp .non)) (t2 eqD (tp x_poured) (tp (.int 0)))))) (tp (.bl false)) (tIf (tMT (t2 notNoneD (tp x_told) (tp .non))) (tb (tb (tCons (tp x_floors) (tCons (tp x_poured) (tp []))) (u2 t_waters)) fun x_rows => (tIf (ttOr (tMT (t2 neD (tb (tCons (tp x_floors) (tCons (tp x_told) (tp []))) (u2 t_poured_for)) (tTup (tCons (tp x_poured) (tCons (tp (.int 1)) (tp [])))))) (tTru (tBf anyB (tCons (tFz (compT (tBf range1 (tCons (tBf lenB (tCons (tp x_floors) (tp []))) (tp []))) tp (fun x_k => (tp true)) fun x_k => (tAnd (t2 gtD (t2 ixD (t2 ixD (tp x_rows) (tp x_k)) (tp (.int 0))) (tp (.int 0))) (t2 neD (tb (tCons (tTup (tCons (t2 ixD (tp x_floors) (tp x_k)) (tCons (tp (.int 1)) (tp [])))) (tCons (t2 ixD (tp x_rows) (tp x_k)) (tp []))) (u2 t__law_plus)) (tp x_told))))) (tp []))))) (tp (.bl false)) (tIf (ttAnd (tMT (t2 ltD (tp x_poured) (tp (.int 9999)))) (ttNot (tTru (tb (tCons (tp x_told) (tCons (tb (tCons (tp x_floors) (tCons (t2 addD (tp x_poured) (tp (.int 1))) (tp []))) (u2 t_flood_level)) (tp []))) (u2 t__law_is_below))))) (tp (.bl false)) (tb (tIf (tMT (t2 eqD (tb (tCons (tp (.int 2)) (tp [])) (u1 t__law_take)) (tp (.int 0)))) (tb (tCons (tp x_floors) (tCons (tp x_height) (tp []))) (u2 t_poured_for)) (tb (tCons (tp x_height) (tCons (tp x_floors) (tp []))) fun ds => tA (ds.length = 2) ((u2 t_poured_for) (ordL [1, 0] ds)))) fun x_own => (tIf (ttNot (tTru (tb (tCons (tp x_own) (tCons (tb (tCons (tp x_floors) (tCons (tp x_height) (tp []))) (u2 t__law_poured_for)) (tp []))) (u2 (t__law_same 10))))) (tp (.bl false)) (tAnd (tNot (tb (tCons (tb (tCons (tp x_floors) (tCons (tb (tCons (tp x_height) (tCons (tTup (tCons (tp (.int 1)) (tCons (tp (.int 2)) (tp [])))) (tp []))) (u2 t__law_plus)) (tp []))) (u2 t_poured_for)) (tCons (tp x_own) (tp []))) (u2 t__law_is_below))) (tb (tCons (tb (tCons (tp x_floors) (tCons (tTup (tCons (tBf minB (tCons (tp x_floors) (tp []))) (tCons (tp (.int 1)) (tp [])))) (tp []))) (u2 t_poured_for)) (tCons (tTup (tCons (tp (.int 0)) (tCons (tp (.int 1)) (tp [])))) (tp []))) (u2 (t__law_same 10))))))))) (tb (tIf (tMT (t2 eqD (tb (tCons (tp (.int 2)) (tp [])) (u1 t__law_take)) (tp (.int 0)))) (tb (tCons (tp x_floors) (tCons (tp x_height) (tp []))) (u2 t_poured_for)) (tb (tCons (tp x_height) (tCons (tp x_floors) (tp []))) fun ds => tA (ds.length = 2) ((u2 t_poured_for) (ordL [1, 0] ds)))) fun x_own_2 => (tIf (ttNot (tTru (tb (tCons (tp x_own_2) (tCons (tb (tCons (tp x_floors) (tCons (tp x_height) (tp []))) (u2 t__law_poured_for)) (tp []))) (u2 (t__law_same 10))))) (tp (.bl false)) (tAnd (tNot (tb (tCons (tb (tCons (tp x_floors) (tCons (tb (tCons (tp x_height) (tCons (tTup (tCons (tp (.int 1)) (tCons (tp (.int 2)) (tp [])))) (tp []))) (u2 t__law_plus)) (tp []))) (u2 t_poured_for)) (tCons (tp x_own_2) (tp []))) (u2 t__law_is_below))) (tb (tCons (tb (tCons (tp x_floors) (tCons (tTup (tCons (tBf minB (tCons (tp x_floors) (tp []))) (tCons (tp (.int 1)) (tp [])))) (tp []))) (u2 t_poured_for)) (tCons (tTup (tCons (tp (.int 0)) (tCons (tp (.int 1)) (tp [])))) (tp []))) (u2 (t__law_same 10))))))))))
/-- _law_right(well) -/
def t__law_right : TM D := (tb (forX (tBf range1 (tCons (tp (.int 16)) (tp []))) (σ := Unit) () fun d s1 => tb (tp d) fun x_turn => (tb (tb (tCons (tp (.int 9)) (tp [])) (u1 t__law_floors)) fun x_floors => (tb (tb (tCons (tTup (tCons (tb (tCons (tp x_floors) (tp [])) (u1 t__law_of)) (tCons (tp (.int 1)) (tp [])))) (tCons (tb (tCons (t2 subD (tb (tCons (tp (.int 90)) (tp [])) (u1 t__law_take)) (tp (.int 40))) (tCons (t2 addD (tp (.int 1)) (tb (tCons (tp (.int 6)) (tp [])) (u1 t__law_take))) (tp []))) (u2 t__law_part)) (tp []))) (u2 t__law_plus)) fun x_height => (tIf (ttNot (tTru (tb (tCons (tp x_floors) (tCons (tb (tCons (tb (tCons (tTup (tCons (tp (.int 1)) (tCons (tp (.int 9)) (tCons (tp (.int 100)) (tCons (tp (.int 10000)) (tp [])))))) (tp [])) (u1 t__law_of)) (tp [])) (u1 t__law_take)) (tCons (tp x_height) (tp [])))) (u3 t__law_is_told)))) (tb (tp (.bl false)) fun d => tp (.rt d)) (tp (Lx.go ())))))) fun o => tFin o (fun d => tp d) fun s2 => (tb (tCons (tFz (tLst (tCons (tb (tCons (tTup (tCons (tp (.int 0)) (tCons (tp (.int 2)) (tCons (tp (.int 9)) (tp []))))) (tCons (tp (.int 4)) (tp []))) (u2 t_flood_level)) (tCons (tb (tCons (tTup (tCons (tp (.int 0)) (tCons (tp (.int 2)) (tCons (tp (.int 9)) (tp []))))) (tCons (tTup (tCons (tp (.int 3)) (tCons (tp (.int 1)) (tp [])))) (tp []))) (u2 t_poured_for)) (tCons (tb (tCons (tTup (tCons (tp (.int 1)) (tCons (tp (.int 2)) (tp [])))) (tCons (tp (.int 0)) (tp []))) (u2 t_flood_level)) (tCons (tb (tCons (tTup (tCons (tp (.int 1)) (tCons (tp (.int 2)) (tp [])))) (tCons (tTup (tCons (t2 subD (tp (.int 0)) (tp (.int 5))) (tCons (tp (.int 2)) (tp [])))) (tp []))) (u2 t_poured_for)) (tp []))))))) (tCons (tFz (tLst (tCons (tTup (tCons (tp (.int 3)) (tCons (tp (.int 1)) (tp [])))) (tCons (tTup (tCons (tp (.int 4)) (tCons (tp (.int 1)) (tp [])))) (tCons (tp .non) (tCons (tTup (tCons (tp (.int 0)) (tCons (tp (.int 1)) (tp [])))) (tp []))))))) (tp []))) (u2 (t__law_same 10))))
/-- law(script) -/
def t_law : D → TM D := fun x_script => (tBf allB (tCons (tFz (compT (tBf range1 (tCons (tBf max2B (tCons (tp (.int 2)) (tCons (tBf min2B (tCons (tBf lenB (tCons (tp x_script) (tp []))) (tCons (tp (.int 3)) (tp [])))) (tp [])))) (tp []))) tp (fun x_lap => (tp true)) fun x_lap => (tb (tb (tb (tCons (tp x_script) (tCons (tp x_lap) (tp []))) tW__law_well) fun _ => (tp [])) (u0 t__law_right)))) (tp [])))
end FL
namespace FL
open PySem PySem.Spec L2
theorem e_whole (i : Int) : t_whole (.int i) = tp (fr (i : Rat)) := by
  simp [t_whole]
theorem e_fraction {n m : Int} (h0 : 0 < m) (h1 : m.natAbs < 2 ^ 4095) : t_fraction (.int n) (.int m) = tp (fr (Rat.divInt n m)) := by
  have hg : 0 < Nat.gcd n.natAbs m.natAbs := Nat.gcd_pos_of_pos_right _ (by omega)
  have hg2 : Nat.gcd n.natAbs m.natAbs ≤ m.natAbs := Nat.gcd_le_right _ (by omega)
  have hp := part_fr (n := n) (m := m) h0
  have hg3 : ((Nat.gcd n.natAbs m.natAbs : Nat) : Int).natAbs < 2 ^ 4096 := by
    rw [Int.natAbs_natCast]
    exact Nat.lt_of_lt_of_le (Nat.lt_of_le_of_lt hg2 h1) (pow_le _ _ (by decide))
  generalize hgg : Nat.gcd n.natAbs m.natAbs = g at *
  have e1 : mulD (.int (g : Int)) (.int 1) = some (.int (g : Int)) := by rw [mul_ok hg3 (small _ (by decide)), Int.mul_one]
  have e2 : ∀ i : Int, divD (.int i) (.int (g : Int)) = some (.int (i / g)) := fun i => div_ok (by omega) hg3
  simp [t_fraction, h0, e1, e2, hgg]
  rw [hp]
theorem e_sum_of {a b : Rat} (ha : Sm 2000 a) (hb : Sm 2000 b) : t_sum_of (fr a) (fr b) = tp (fr (a + b)) := by
  have d := dens ha hb
  have := e_fraction (n := a.num * b.den + b.num * a.den) d.1 (Nat.lt_of_lt_of_le d.2 (pow_le _ _ (by decide)))
  rw [add_fr] at this
  simp [t_sum_of, mul_sm ha.1 (den_sm hb), mul_sm hb.1 (den_sm ha), mul_sm (den_sm ha) (den_sm hb), this]
theorem e_less {a b : Rat} (ha : Sm 2000 a) (hb : Sm 2000 b) : t_less (fr a) (fr b) = tp (fr (a - b)) := by
  have d := dens ha hb
  have := e_fraction (n := a.num * b.den - b.num * a.den) d.1 (Nat.lt_of_lt_of_le d.2 (pow_le _ _ (by decide)))
  rw [sub_fr] at this
  simp [t_less, mul_sm ha.1 (den_sm hb), mul_sm hb.1 (den_sm ha), mul_sm (den_sm ha) (den_sm hb), this]
theorem e_is_less {a b : Rat} (ha : Sm 2000 a) (hb : Sm 2000 b) : t_is_less (fr a) (fr b) = tp (.bl (decide (a < b))) := by
  simp [t_is_less, mul_sm ha.1 (den_sm hb), mul_sm hb.1 (den_sm ha), lt_fr]
theorem t_euclid : ∀ (k n x y : Nat), y < 2 ^ k → 2 * k + 1 ≤ n → whileT (σ := D × D) (fun s1 => (tMT (t2 gtD (tp s1.2) (tp (.int 0))))) (fun s1 => (tP2 (tCons (tp s1.2) (tCons (t2 modD (tBf intB (tCons (tp s1.1) (tp []))) (tp s1.2)) (tp []))) fun x_one_3 x_two_3 => (tp (x_one_3, x_two_3)))) n (.int (x : Int), .int (y : Int)) = tp (.int (Nat.gcd x y : Nat), .int 0)
  | k, 0, x, y, _, hn => by omega
  | k, n + 1, x, y, hy, hn => by
    by_cases g : 0 < y
    · match k, hy, hn with
      | 0, hy, hn => exact absurd hy (by simp; omega)
      | k + 1, hy, hn =>
        match n, hn with
        | n + 1, hn =>
          have m1 : modD (.int (x : Int)) (.int (y : Int)) = some (.int ((x % y : Nat) : Int)) := by rw [mod_ok (by omega), Int.natCast_emod]
          by_cases g2 : 0 < x % y
          · have m2 : modD (.int (y : Int)) (.int ((x % y : Nat) : Int)) = some (.int ((y % (x % y) : Nat) : Int)) := by rw [mod_ok (by omega)]; rfl
            have hlt : x % y < y := Nat.mod_lt _ g
            have h2 : 2 * (y % (x % y)) ≤ y := by
              have := half_mod (a := y) (b := (x % y : Nat)) (by omega) (by omega) (by omega)
              rw [← Int.natCast_emod] at this
              omega
            have ih := t_euclid k n (x % y) (y % (x % y)) (by rw [Nat.pow_succ] at hy; omega) (by omega)
            rw [show Nat.gcd (x % y) (y % (x % y)) = Nat.gcd x y by rw [Nat.gcd_comm x y, Nat.gcd_rec y x, Nat.gcd_comm (x % y) y, Nat.gcd_comm, ← Nat.gcd_rec, Nat.gcd_comm]] at ih
            unfold whileT
            have g' : (0 : Int) < (y : Int) := by omega
            simp only [x_2, d_gt, p_tO, x_MT, d_unBl, p_tb, g', decide_true, if_true, x_cons, x_Bf, d_intB, m1, x_P2, x_m2]
            unfold whileT
            have g2' : (0 : Int) < ((x % y : Nat) : Int) := by omega
            simp only [x_2, d_gt, p_tO, x_MT, d_unBl, p_tb, g2', decide_true, if_true, x_cons, x_Bf, d_intB, m2, x_P2, x_m2]
            exact ih
          · have z0 : x % y = 0 := by omega
            unfold whileT
            have g' : (0 : Int) < (y : Int) := by omega
            simp only [x_2, d_gt, p_tO, x_MT, d_unBl, p_tb, g', decide_true, if_true, x_cons, x_Bf, d_intB, m1, x_P2, x_m2]
            unfold whileT
            rw [z0]
            simp
            rw [Nat.gcd_comm, Nat.gcd_rec, z0, Nat.gcd_zero_left]
    · have y0 : y = 0 := by omega
      subst y0
      unfold whileT
      simp
theorem e_is_whole (i : Int) : t_is_whole (.int i) = tp (.bl true) := by simp [t_is_whole]
theorem e_is_between (i a b : Int) : t_is_between (.int i) (.int a) (.int b) = tp (.bl (decide (a ≤ i ∧ i ≤ b))) := by
  simp [t_is_between, e_is_whole]
  split <;> simp [*]
theorem e_is_tuple_of (ds : List D) (n : Int) : t_is_tuple_of (.tup ds) (.int n) = tp (.bl (decide ((ds.length : Int) = n))) := by simp [t_is_tuple_of]
theorem e_is_fraction_by (q : Rat) : t_is_fraction_by (fr q) = tp (.bl true) := by
  have h := e_is_tuple_of [.int q.num, .int q.den] 2
  have h0 : t_is_tuple_of (fr q) (.int 2) = tp (.bl true) := h
  have h1 : q.den ≠ 0 := q.den_nz
  have h2 := gcd_one q
  simp [t_is_fraction_by, h0, e_is_whole, h1, h2]
theorem first_ok {α : Type} {enc : α → D} {t : D → TM D} {xs : List α} (H : ∀ x ∈ xs, t (enc x) = tp (.bl true)) :
    compL (fun d => tb (tO (unTup 2 d)) (tgCons tp fun (a2 : D) => (tgCons tp fun (a3 : D) => tgNil))) (fun v1 => tb (t v1.2.1) fun d => tb (tO (truB d)) fun a => tp (!a)) (fun v1 => (tp v1.1)) (enumD (xs.map enc)) = tp [] := by
  have hn : ∀ l : List Nat, l.filterMap (fun _ => (none : Option D)) = [] := fun l => by induction l <;> simp [*]
  rw [enum_map, compL_fm _ (fun _ => none)]
  · rw [hn]
  · intro i hi
    have hi := List.mem_range.mp hi
    have e : (xs.map enc).getD i .non = enc xs[i] := by simp [List.getD, List.getElem?_eq_getElem hi]
    rw [e]
    simp [H _ (List.getElem_mem hi)]
theorem cut_nil (hi : Option Int) : cutD (.lst []) none hi = some (.lst []) := by
  show some (D.lst (cutDs [] none hi)) = _
  unfold cutDs
  simp
theorem enum_len {α : Type} (xs : List α) (f : α → D) : (enumD (xs.map f)).length = xs.length := by unfold enumD; simp
theorem e_check_fraction (q : Rat) : t_check_fraction (fr q) = tp .non := by simp [t_check_fraction, e_is_fraction_by]
theorem e_total {N M : Nat} {rs : List Rat} (h : ∀ x ∈ rs, Fx N M x) (h0 : 0 < N) (hN : N < 2 ^ 1900) (hM : rs.length * M < 2 ^ 1900) (hl : rs.length ≤ 1000) : t_total (.lst (rs.map fr)) = tp (fr rs.sum) := by
  have key := forL_foldI (enc := fr) (es := fr) (f := (· + ·)) (fun xs s => xs.length ≤ rs.length ∧ Fx N ((rs.length - xs.length) * M) s ∧ ∀ x ∈ xs, Fx N M x)
    (fun d s1 => t_sum_of s1 d) rs 0 (fun x xs s ⟨i1, i2, i3⟩ => ?_) ⟨Nat.le_refl _, ?_, h⟩
  · have h1 : rs.length ≤ 100000 := by omega
    have h2 : (D.tup [.int 0, .int 1]) = fr 0 := rfl
    simp [t_total, h1, h2]
    rw [key, foldl_sum, Rat.zero_add]
  · rw [List.length_cons] at i1 i2
    have hx := i3 x (List.mem_cons_self ..)
    have b1 : (rs.length - (xs.length + 1)) * M ≤ rs.length * M := Nat.mul_le_mul_right _ (by omega)
    have b2 : 1 * M ≤ rs.length * M := Nat.mul_le_mul_right _ (by omega)
    have pw : (2 : Nat) ^ 1900 ≤ 2 ^ 2000 := pow_le _ _ (by decide)
    generalize (2 : Nat) ^ 1900 = z at hN hM pw
    refine ⟨?_, by omega, ?_, fun y hy => i3 y (List.mem_cons_of_mem _ hy)⟩
    · rw [e_sum_of (i2.sm (by omega) (by omega)) (hx.sm (by omega) (by omega))]
    · have := i2.add hx
      rw [show (rs.length - (xs.length + 1)) * M + M = (rs.length - xs.length) * M by rw [show rs.length - xs.length = rs.length - (xs.length + 1) + 1 by omega, Nat.succ_mul]] at this
      exact this
  · rw [Nat.sub_self, Nat.zero_mul]
    exact ⟨h0, 0, by rw [Rat.zero_divInt], by simp⟩
def kD (k : Int × Int) : D := .tup [.int k.1, .int k.2]
def Kin (k : Int × Int) : Prop := -10050 ≤ k.1 ∧ k.1 ≤ 10050 ∧ 1 ≤ k.2 ∧ k.2 ≤ 9999
def pos (x : Rat) : Rat := if 0 < x then x else 0
def priceR (ks : List (Int × Int)) (s : Rat) : Rat := (ks.map fun k => (k.2 : Rat) * pos (s - k.1)).sum
theorem Fx.pos {N M : Nat} {q : Rat} (h : Fx N M q) : Fx N M (pos q) := by
  unfold FL.pos
  split
  · exact h
  · exact ⟨h.1, 0, by rw [Rat.zero_divInt], by simp⟩
theorem fx_term {N M : Nat} {s : Rat} (h : Fx N M s) {k : Int × Int} (hk : Kin k) : Fx N (M + N * 10050) (s - k.1) ∧ Fx N (9999 * (M + N * 10050)) ((k.2 : Rat) * pos (s - k.1)) := by
  obtain ⟨a1, a2, a3, a4⟩ := hk
  have b := Fx.int h.1 k.1
  have b' : Fx N (N * 10050) (k.1 : Rat) := b.up (Nat.mul_le_mul_left _ (by omega))
  have c := h.sub b'
  refine ⟨c, ?_⟩
  have d : Fx 1 9999 (k.2 : Rat) := (Fx.int (N := 1) (by decide) k.2).up (by omega)
  have e := d.mul c.pos
  rw [Nat.one_mul] at e
  exact e
theorem num_fr (n : Nat) (q : Rat) : numB (n + 2) (fr q) = true := rfl
theorem num_frs (n : Nat) (l : List Rat) (h : l.length ≤ 1000) : numB (n + 3) (.tup (l.map fr)) = true := by
  show (decide ((l.map fr).length ≤ 1000) && (l.map fr).all (numB (n + 2))) = true
  rw [Bool.and_eq_true, decide_eq_true_eq, List.length_map]
  exact ⟨h, List.all_eq_true.mpr fun x hx => by
    obtain ⟨q, _, rfl⟩ := List.mem_map.mp hx
    exact num_fr n q⟩
def stepsR : List Rat → List Rat
  | [] => []
  | [_] => []
  | a :: b :: l => (b - a) :: stepsR (b :: l)
theorem steps_len : ∀ l : List Rat, (stepsR l).length = l.length - 1
  | [] => rfl
  | [_] => rfl
  | a :: b :: l => by
    show (stepsR (b :: l)).length + 1 = _
    rw [steps_len (b :: l)]
    simp
theorem steps_get : ∀ (l : List Rat) (i : Nat) (h : i + 1 < l.length), (stepsR l)[i]? = some (l[i + 1] - l[i])
  | [], i, h => by simp at h
  | [_], i, h => by simp at h
  | a :: b :: l, 0, h => rfl
  | a :: b :: l, i + 1, h => by
    show (stepsR (b :: l))[i]? = _
    rw [steps_get (b :: l) i (by simpa using h)]
    rfl
theorem steps_eq (l : List Rat) : stepsR l = (List.range (l.length - 1)).map fun i => l.getD (i + 1) 0 - l.getD i 0 := by
  apply List.ext_getElem?
  intro i
  by_cases h : i + 1 < l.length
  · rw [steps_get l i h, List.getElem?_map, List.getElem?_range (by omega)]
    simp [List.getD, List.getElem?_eq_getElem h, List.getElem?_eq_getElem (show i < l.length by omega)]
  · rw [List.getElem?_eq_none (by rw [steps_len]; omega), List.getElem?_eq_none (by simp; omega)]
theorem steps_mem {l : List Rat} {x : Rat} (h : x ∈ stepsR l) : ∃ i, ∃ h : i + 1 < l.length, x = l[i + 1] - l[i] := by
  obtain ⟨i, hi, e⟩ := List.mem_iff_getElem.mp h
  rw [steps_len] at hi
  have := steps_get l i (by omega)
  rw [List.getElem?_eq_getElem (by rw [steps_len]; omega)] at this
  exact ⟨i, by omega, by rw [← e]; exact Option.some.inj this⟩
def FxL (N M : Nat) (l : List Rat) : Prop := ∀ x ∈ l, Fx N M x
theorem FxL.steps {N M : Nat} {l : List Rat} (h : FxL N M l) : FxL N (M + M) (stepsR l) := fun x hx => by
  obtain ⟨i, hi, rfl⟩ := steps_mem hx
  exact (h _ (List.getElem_mem _)).sub (h _ (List.getElem_mem _))
def KinA (k : Int × Int) : Prop := -9999 ≤ k.1 ∧ k.1 ≤ 9999 ∧ 1 ≤ k.2 ∧ k.2 ≤ 9999
theorem KinA.kin {k : Int × Int} (h : KinA k) : Kin k := by unfold KinA at h; unfold Kin; omega
theorem fx_price {N M : Nat} {ks : List (Int × Int)} {s : Rat} (h : Fx N M s) (hk : ∀ k ∈ ks, Kin k) (hl : ks.length ≤ 9) : Fx N (9 * (9999 * (M + N * 10050))) (priceR ks s) := by
  have := Fx.sum (l := ks.map fun k => (k.2 : Rat) * pos (s - k.1)) h.1 (fun x hx => by
    obtain ⟨k, h1, rfl⟩ := List.mem_map.mp hx
    exact (fx_term h (hk k h1)).2)
  rw [List.length_map] at this
  exact this.up (Nat.mul_le_mul_right _ hl)
def costR (ks : List (Int × Int)) (l : List Rat) : Rat := ((stepsR l).map (priceR ks)).sum
def sqR (l : List Rat) : Rat := ((stepsR l).map fun x => x * x).sum
theorem sm0 {k : Nat} : Sm (k + 1) (0 : Rat) := sm_int (i := 0) (Nat.pow_pos (by decide))
theorem range_cast (n : Nat) : (List.range n).map (fun i : Nat => D.int (i : Int)) = (List.range n).map (fun i : Nat => D.int (i : Int)) := rfl
theorem pos_convex (a b t : Rat) (t0 : 0 ≤ t) (t1 : t ≤ 1) : pos (a + t * (b - a)) ≤ pos a + t * (pos b - pos a) := by
  have pn : ∀ x, 0 ≤ pos x ∧ x ≤ pos x := fun x => by unfold pos; split <;> grind
  have h1 := Rat.mul_le_mul_of_nonneg_left (pn b).1 t0
  have h2 := Rat.mul_le_mul_of_nonneg_left (pn b).2 t0
  have h3 := Rat.mul_le_mul_of_nonneg_left (pn a).1 (show 0 ≤ 1 - t by grind)
  have h4 := Rat.mul_le_mul_of_nonneg_left (pn a).2 (show 0 ≤ 1 - t by grind)
  rw [show pos (a + t * (b - a)) = if 0 < a + t * (b - a) then a + t * (b - a) else 0 from rfl]
  split <;> grind
theorem price_nil (s : Rat) : priceR [] s = 0 := rfl
theorem price_cons (k : Int × Int) (ks : List (Int × Int)) (s : Rat) : priceR (k :: ks) s = (k.2 : Rat) * pos (s - k.1) + priceR ks s := by unfold priceR; rw [List.map_cons, List.sum_cons]
theorem price_app (ks js : List (Int × Int)) (s : Rat) : priceR (ks ++ js) s = priceR ks s + priceR js s := by
  induction ks with
  | nil => rw [List.nil_append, price_nil, Rat.zero_add]
  | cons k ks ih => rw [List.cons_append, price_cons, price_cons, ih]; grind
theorem price_rev (ks : List (Int × Int)) (s : Rat) : priceR ks.reverse s = priceR ks s := by
  induction ks with
  | nil => rfl
  | cons k ks ih => rw [List.reverse_cons, price_app, ih, price_cons, price_cons, price_nil]; grind
theorem price_convex (a b t : Rat) (t0 : 0 ≤ t) (t1 : t ≤ 1) : ∀ ks : List (Int × Int), (∀ k ∈ ks, Kin k) → priceR ks (a + t * (b - a)) ≤ priceR ks a + t * (priceR ks b - priceR ks a)
  | [], _ => by rw [price_nil, price_nil, price_nil]; grind
  | k :: ks, h => by
    have ih := price_convex a b t t0 t1 ks fun x hx => h x (List.mem_cons_of_mem _ hx)
    have hk := (h k (List.mem_cons_self ..)).2.2.1
    have c := pos_convex (a - k.1) (b - k.1) t t0 t1
    have k0 : (0 : Rat) ≤ (k.2 : Rat) := Rat.intCast_nonneg.mpr (by omega)
    have c2 := Rat.mul_le_mul_of_nonneg_left c k0
    rw [price_cons, price_cons, price_cons, show a + t * (b - a) - (k.1 : Rat) = a - k.1 + t * (b - k.1 - (a - k.1)) by grind]
    generalize pos (a - k.1 + t * (b - k.1 - (a - k.1))) = x1 at *
    generalize pos (a - k.1) = x2 at *
    generalize pos (b - k.1) = x3 at *
    generalize (k.2 : Rat) = w at *
    grind
theorem sum_sq (l : List Rat) : l.sum * l.sum ≤ (l.length : Rat) * (l.map fun x => x * x).sum := by
  have sq : ∀ x : Rat, 0 ≤ x * x := fun x => by
    rcases Rat.le_total (a := 0) (b := x) with h | h
    · exact Rat.mul_nonneg h h
    · have := Rat.mul_nonneg (show 0 ≤ -x by grind) (show 0 ≤ -x by grind)
      grind
  have aux : ∀ (l : List Rat) (x : Rat), 2 * x * l.sum ≤ (l.length : Rat) * (x * x) + (l.map fun x => x * x).sum := by
    intro l x
    induction l with
    | nil => simp; grind
    | cons y l ih =>
      rw [List.sum_cons, List.length_cons, List.map_cons, List.sum_cons]
      have := sq (x - y)
      have e : ((l.length + 1 : Nat) : Rat) = (l.length : Rat) + 1 := by simp
      rw [e]
      grind
  induction l with
  | nil => simp
  | cons x l ih =>
    have := aux l x
    rw [List.sum_cons, List.length_cons, List.map_cons, List.sum_cons]
    have e : ((l.length + 1 : Nat) : Rat) = (l.length : Rat) + 1 := by simp
    rw [e]
    grind
theorem steps_sum : ∀ (l : List Rat) (a : Rat), (stepsR (a :: l)).sum = (a :: l).getLast (List.cons_ne_nil _ _) - a
  | [], a => by simp [stepsR]; grind
  | b :: l, a => by
    show ((b - a) :: stepsR (b :: l)).sum = _
    rw [List.sum_cons, steps_sum l b, List.getLast_cons (List.cons_ne_nil _ _)]
    grind
theorem cutDs_map {α : Type} (xs : List α) (f : α → D) (lo hi : Option Int) : ∃ ys : List α, cutDs (xs.map f) lo hi = ys.map f ∧ ys = (xs.drop (HT.sIx xs.length 0 lo)).take (HT.sIx xs.length xs.length hi - HT.sIx xs.length 0 lo) := by
  refine ⟨_, ?_, rfl⟩
  unfold cutDs
  rw [List.length_map, List.map_take, List.map_drop]
theorem cut_to {α : Type} (xs : List α) (f : α → D) {h : Nat} (hh : h ≤ xs.length) : cutD (.tup (xs.map f)) none (some (h : Int)) = some (.tup ((xs.take h).map f)) := by
  show some (D.tup (cutDs (xs.map f) none (some (h : Int)))) = _
  obtain ⟨ys, e1, e2⟩ := cutDs_map xs f none (some (h : Int))
  rw [e1, e2]
  have : HT.sIx xs.length xs.length (some (h : Int)) = h := by
    show (if (h : Int) < 0 then ((h : Int) + (xs.length : Int)).toNat else min (h : Int).toNat xs.length) = h
    rw [if_neg (by omega)]; omega
  rw [this, show HT.sIx xs.length 0 none = 0 from rfl]
  simp
theorem cut_from {α : Type} (xs : List α) (f : α → D) {h : Nat} (hh : h ≤ xs.length) : cutD (.tup (xs.map f)) (some (h : Int)) none = some (.tup ((xs.drop h).map f)) := by
  show some (D.tup (cutDs (xs.map f) (some (h : Int)) none)) = _
  obtain ⟨ys, e1, e2⟩ := cutDs_map xs f (some (h : Int)) none
  rw [e1, e2]
  have : HT.sIx xs.length 0 (some (h : Int)) = h := by
    show (if (h : Int) < 0 then ((h : Int) + (xs.length : Int)).toNat else min (h : Int).toNat xs.length) = h
    rw [if_neg (by omega)]; omega
  rw [this, show HT.sIx xs.length xs.length none = xs.length from rfl]
  congr 3
  apply List.take_of_length_le
  rw [List.length_drop]
  omega
theorem cut_sub {α : Type} (xs : List α) (f : α → D) (lo hi : Option Int) : ∃ ys : List α, cutD (.tup (xs.map f)) lo hi = some (.tup (ys.map f)) ∧ (∀ y ∈ ys, y ∈ xs) ∧ ys.length ≤ xs.length := by
  obtain ⟨ys, e1, e2⟩ := cutDs_map xs f lo hi
  refine ⟨ys, by show some (D.tup (cutDs (xs.map f) lo hi)) = _; rw [e1], fun y hy => ?_, ?_⟩
  · rw [e2] at hy
    exact List.mem_of_mem_drop (List.mem_of_mem_take hy)
  · rw [e2, List.length_take, List.length_drop]; omega
theorem rev_map {α : Type} (xs : List α) (f : α → D) : revD (.tup (xs.map f)) = some (.tup (xs.reverse.map f)) := by
  show some (D.tup (xs.map f).reverse) = _
  rw [List.map_reverse]
def FrS (d : D) : Prop := ∃ q, d = fr q ∧ ∃ N, N ≤ 100 ∧ Fx N 1000000000000000 q
theorem fx_lift {N N' M : Nat} {q : Rat} (h : Fx N M q) (h' : 0 < N') : Fx (N' * N) (N' * M) q := h.lift h'
theorem ord10 (a b : D) : ordL [1, 0] [a, b] = [b, a] := rfl
theorem ord0 (a : D) : ordL [0] [a] = [a] := rfl
def shiftK (b : Int) (ks : List (Int × Int)) : List (Int × Int) := ks.map fun k => (k.1 + b, k.2)
def tiltR (b : Int) (l : List Rat) : List Rat := (List.range l.length).map fun k => l.getD k 0 + (b : Rat) * (k : Rat)
theorem price_shift (b : Int) (s : Rat) : ∀ ks : List (Int × Int), priceR (shiftK b ks) (s + b) = priceR ks s
  | [] => rfl
  | k :: ks => by
    show priceR ((k.1 + b, k.2) :: shiftK b ks) (s + b) = _
    rw [price_cons, price_cons, price_shift b s ks]
    rw [show s + (b : Rat) - (((k.1 + b, k.2) : Int × Int).1 : Rat) = s - k.1 by simp only; rw [Rat.intCast_add]; grind]
theorem tilt_len (b : Int) (l : List Rat) : (tiltR b l).length = l.length := by unfold tiltR; simp
theorem tilt_get (b : Int) (l : List Rat) (i : Nat) (h : i < l.length) : (tiltR b l).getD i 0 = l.getD i 0 + (b : Rat) * (i : Rat) := by
  unfold tiltR
  simp [List.getD, List.getElem?_map, List.getElem?_range h]
theorem steps_tilt (b : Int) (l : List Rat) : stepsR (tiltR b l) = (stepsR l).map fun s : Rat => s + (b : Rat) := by
  rw [steps_eq, steps_eq, List.map_map, tilt_len]
  apply List.map_congr_left
  intro i hi
  have hi := List.mem_range.mp hi
  rw [tilt_get b l (i + 1) (by omega), tilt_get b l i (by omega)]
  have e : ((i + 1 : Nat) : Rat) = (i : Rat) + 1 := by simp
  rw [e]
  show _ = l.getD (i + 1) 0 - l.getD i 0 + (b : Rat)
  grind
theorem cost_shift (b : Int) (ks : List (Int × Int)) (l : List Rat) : costR (shiftK b ks) (tiltR b l) = costR ks l := by
  unfold costR
  rw [steps_tilt, List.map_map]
  congr 1
  apply List.map_congr_left
  intro s _
  exact price_shift b s ks
theorem sq_ends (l : List Rat) (h : 2 ≤ l.length) (hne : l ≠ []) : ¬ sqR l < (l.getLast hne - l.head hne) * (l.getLast hne - l.head hne) / ((l.length : Int) - 1 : Int) := by
  match l, h, hne with
  | a :: b :: r, h, hne =>
    have s1 := steps_sum (b :: r) a
    have s2 := sum_sq (stepsR (a :: b :: r))
    have s3 := steps_len (a :: b :: r)
    rw [s1] at s2
    show ¬ sqR (a :: b :: r) < ((a :: b :: r).getLast _ - a) * ((a :: b :: r).getLast _ - a) / _
    have hm : ((stepsR (a :: b :: r)).length : Rat) = ((((a :: b :: r).length : Int) - 1 : Int) : Rat) := by
      rw [s3]
      have : (((a :: b :: r).length : Int) - 1) = (((a :: b :: r).length - 1 : Nat) : Int) := by omega
      rw [this]
      rfl
    rw [hm] at s2
    have hp : (0 : Rat) < ((((a :: b :: r).length : Int) - 1 : Int) : Rat) := Rat.intCast_pos.mpr (by simp)
    generalize ((((a :: b :: r).length : Int) - 1 : Int) : Rat) = m at *
    generalize (a :: b :: r).getLast _ - a = d at *
    have s4 : d * d ≤ m * sqR (a :: b :: r) := s2
    generalize sqR (a :: b :: r) = z at *
    intro hlt
    have := Rat.mul_lt_mul_of_pos_left hlt hp
    have e : m * (d * d / m) = d * d := by
      rw [Rat.div_def, Rat.mul_comm, Rat.mul_assoc, Rat.inv_mul_cancel _ (by grind), Rat.mul_one]
    rw [e] at this
    grind
theorem max3 (n : Nat) : ∃ m : Nat, m ≤ 6 ∧ (if (if (6 : Int) < (n : Int) then (6 : Int) else (n : Int)) > 3 then (if (6 : Int) < (n : Int) then (6 : Int) else (n : Int)) else 3) = (m : Int) := by
  by_cases h : n ≤ 6
  · rw [if_neg (show ¬ (6 : Int) < (n : Int) by omega)]
    by_cases h3 : 3 < n
    · exact ⟨n, h, if_pos (by omega)⟩
    · exact ⟨3, by decide, if_neg (by omega)⟩
  · rw [if_pos (show (6 : Int) < (n : Int) by omega)]
    exact ⟨6, by decide, rfl⟩
theorem fx_up : FxL 1 2 [0, 2, 2, 0] := by
  intro x hx
  have h0 : Fx 1 2 (0 : Rat) := (Fx.int (N := 1) (by decide) 0).up (by decide)
  have h2 : Fx 1 2 (2 : Rat) := (Fx.int (N := 1) (by decide) 2).up (by decide)
  simp only [List.mem_cons, List.not_mem_nil, or_false] at hx
  rcases hx with rfl | rfl | rfl | rfl
  · exact h0
  · exact h2
  · exact h2
  · exact h0
def pD (p : Int × Int) : D := .tup [.int p.1, .int p.2]
def bsD (bs : List (Int × Int)) : D := .tup (bs.map pD)
def PairOk (p : Int × Int) : Prop := -9999 ≤ p.1 ∧ p.1 ≤ p.2 ∧ p.2 ≤ 9999
structure GoodB (bs : List (Int × Int)) : Prop where
  two : 2 ≤ bs.length
  nine : bs.length ≤ 9
  all : ∀ p ∈ bs, PairOk p
  e0 : (bs.getD 0 (0, 0)).1 = (bs.getD 0 (0, 0)).2
  e1 : (bs.getD (bs.length - 1) (0, 0)).1 = (bs.getD (bs.length - 1) (0, 0)).2
def loI (bs : List (Int × Int)) (i : Nat) : Int := (bs.getD i (0, 0)).1
def hiI (bs : List (Int × Int)) (i : Nat) : Int := (bs.getD i (0, 0)).2
def loR (bs : List (Int × Int)) (i : Nat) : Rat := (loI bs i : Rat)
def hiR (bs : List (Int × Int)) (i : Nat) : Rat := (hiI bs i : Rat)
variable {bs : List (Int × Int)}
theorem GoodB.at (G : GoodB bs) {i : Nat} (h : i < bs.length) : -9999 ≤ loI bs i ∧ loI bs i ≤ hiI bs i ∧ hiI bs i ≤ 9999 := by
  have := G.all _ (List.getElem_mem h)
  unfold loI hiI
  rw [show bs.getD i (0, 0) = bs[i] by simp [List.getD, List.getElem?_eq_getElem h]]
  exact this
theorem GoodB.bd (G : GoodB bs) : LV.Bd bs.length (loR bs) (hiR bs) :=
  ⟨G.two, fun i hi => Rat.intCast_le_intCast.mpr (G.at hi).2.1, congrArg (fun z : Int => (z : Rat)) G.e0, congrArg (fun z : Int => (z : Rat)) G.e1⟩
theorem bs_ix {i : Nat} (h : i < bs.length) : ixD (bsD bs) (.int (i : Int)) = some (.tup [.int (loI bs i), .int (hiI bs i)]) := by
  unfold bsD
  rw [d_ixm h]
  unfold loI hiI pD
  rw [show bs.getD i (0, 0) = bs[i] by simp [List.getD, List.getElem?_eq_getElem h]]
theorem bs_len : lenB [bsD bs] = some (.int (bs.length : Int)) := by unfold bsD; rw [d_len, List.length_map]
theorem bs_last (G : GoodB bs) : ixD (bsD bs) (.int (-1)) = some (.tup [.int (loI bs (bs.length - 1)), .int (hiI bs (bs.length - 1))]) := by
  have hne : bs ≠ [] := by intro z; have := G.two; rw [z] at this; simp at this
  unfold bsD
  rw [d_ixlast hne]
  unfold loI hiI pD
  rw [show bs.getD (bs.length - 1) (0, 0) = bs.getLast hne by
    rw [List.getLast_eq_getElem]
    simp [List.getD, List.getElem?_eq_getElem (show bs.length - 1 < bs.length by have := G.two; omega)]]
theorem nil_eq : eqD (.lst []) (.lst []) = some (.bl true) := rfl
theorem nil_ne : neD (.lst []) (.lst []) = some (.bl false) := rfl
theorem smi {k : Nat} {i : Int} (h : i.natAbs < 2 ^ (k + 1)) : Sm (k + 1) (i : Rat) := sm_int h
theorem sm9 {i : Int} (h : -19999 ≤ i) (h2 : i ≤ 19999) : Sm 20 (i : Rat) := smi (k := 19) (by omega)
theorem sm_slope20 {a p : Nat} {h z : Int} (hap : a < p) (hp : p ≤ 1000) (h1 : -9999 ≤ h ∧ h ≤ 9999) (h2 : -9999 ≤ z ∧ z ≤ 9999) : Sm 20 (((z : Rat) - (h : Rat)) / ((p : Rat) - (a : Rat))) := by
  have e : ((z : Rat) - (h : Rat)) / ((p : Rat) - (a : Rat)) = Rat.divInt (z - h) ((p : Int) - a) := by
    rw [Rat.divInt_eq_div, Rat.intCast_sub, Rat.intCast_sub]
    rfl
  rw [e]
  exact sm_div (k := 20) (by omega) (by omega) (by omega)
theorem sm_slope {a p : Nat} {h z : Int} (hap : a < p) (hp : p ≤ 1000) (h1 : -9999 ≤ h ∧ h ≤ 9999) (h2 : -9999 ≤ z ∧ z ≤ 9999) : Sm 2000 (((z : Rat) - (h : Rat)) / ((p : Rat) - (a : Rat))) := (sm_slope20 hap hp h1 h2).mono (by decide)
def rngF (p n : Nat) : List D := (List.range (n - p)).map fun i : Nat => .int ((p + i : Nat) : Int)
theorem rngF_cons {p n : Nat} (h : p < n) : rngF p n = .int (p : Int) :: rngF (p + 1) n := by
  unfold rngF
  rw [show n - p = (n - (p + 1)) + 1 by omega, List.range_succ_eq_map, List.map_cons, List.map_map]
  congr 1
  apply List.map_congr_left
  intro i _
  show D.int ((p + (i + 1) : Nat) : Int) = .int ((p + 1 + i : Nat) : Int)
  congr 2
  omega
theorem rngF_nil {p n : Nat} (h : n ≤ p) : rngF p n = [] := by
  unfold rngF
  rw [show n - p = 0 by omega]
  rfl
theorem rngF_len (p n : Nat) : (rngF p n).length = n - p := by unfold rngF; simp
theorem d_range2 {p n : Nat} (h : n ≤ 1000) (h2 : p ≤ 1000) : range2 [.int (p : Int), .int (n : Int)] = some (rngF p n) := by
  show (if rgOk (p : Int) && rgOk (n : Int) then some (rgD (p : Int) ((n : Int) - p).toNat) else none) = _
  rw [if_pos (by simp [rgOk]; omega), show ((n : Int) - p).toNat = n - p by omega]
  unfold rngF rgD
  congr 1
def prD (u : Rat) (i : Nat) : D := .tup [fr u, .int (i : Int)]
def nnD : D := .tup [.non, .non]
variable {bs : List (Int × Int)}
theorem ix_lo {i : Nat} (h : i < bs.length) : (tb (tO (ixD (bsD bs) (.int (i : Int)))) fun z => tO (ixD z (.int 0))) = tp (.int (loI bs i)) := by rw [bs_ix h]; simp
theorem nt_loop (G : GoodB bs) {a : Nat} {h : Int} {body : D → D × D → TM (Lx (D × D))}
    (hb : ∀ p u i v j, a < p → p < bs.length → Sm 2000 u → Sm 2000 v → i < bs.length → j < bs.length → body (.int (p : Int)) (prD u i, prD v j) =
      if u < LV.up (loR bs) a h p then tp (.rt (.tup [.int (i : Int), fr (hiR bs i)])) else if LV.up (hiR bs) a h p < v then tp (.rt (.tup [.int (j : Int), fr (loR bs j)]))
      else tp (.go (if u < LV.up (hiR bs) a h p then prD u i else prD (LV.up (hiR bs) a h p) p, if LV.up (loR bs) a h p < v then prD v j else prD (LV.up (loR bs) a h p) p)))
    (hs : ∀ p, a < p → p < bs.length → Sm 2000 (LV.up (loR bs) a h p) ∧ Sm 2000 (LV.up (hiR bs) a h p)) :
    ∀ (k p : Nat) (u : Rat) (i : Nat) (v : Rat) (j : Nat), p + k = bs.length → LV.Scan (loR bs) (hiR bs) a h p u i v j → Sm 2000 u → Sm 2000 v →
      (∃ (q : Nat) (y : Int) (s : Rat), forXL body (rngF p bs.length) (prD u i, prD v j) = tp (.rt (.tup [.int (q : Int), fr (y : Rat)])) ∧ LV.Stage bs.length (loR bs) (hiR bs) a h q y s ∧ -9999 ≤ y ∧ y ≤ 9999) ∨
      ∃ st, forXL body (rngF p bs.length) (prD u i, prD v j) = tp (.go st) ∧ ∃ u i v j, LV.Scan (loR bs) (hiR bs) a h bs.length u i v j
  | 0, p, u, i, v, j, hp, S, su, sv => by
    rw [rngF_nil (by omega)]
    exact .inr ⟨_, rfl, u, i, v, j, by rw [Nat.add_zero] at hp; rw [← hp]; exact S⟩
  | k + 1, p, u, i, v, j, hp, S, su, sv => by
    have i2 := S.i2
    have j2 := S.j2
    have hap : a < p := by have := S.i1; omega
    have hle := G.bd.le
    have b := hb p u i v j hap (by omega) su sv (by omega) (by omega)
    obtain ⟨s1, s2⟩ := hs p hap (by omega)
    rw [rngF_cons (show p < bs.length by omega)]
    by_cases c1 : u < LV.up (loR bs) a h p
    · rw [if_pos c1] at b
      have := G.at (i := i) (by omega)
      refine .inl ⟨i, hiI bs i, u, ?_, LV.scan_stopA hle S (by omega) c1, by omega, by omega⟩
      show tb (body (.int (p : Int)) (prD u i, prD v j)) _ = _
      rw [b]
      rfl
    · rw [if_neg c1] at b
      by_cases c2 : LV.up (hiR bs) a h p < v
      · rw [if_pos c2] at b
        have := G.at (i := j) (by omega)
        refine .inl ⟨j, loI bs j, v, ?_, LV.scan_stopB hle S (by omega) c2, by omega, by omega⟩
        show tb (body (.int (p : Int)) (prD u i, prD v j)) _ = _
        rw [b]
        rfl
      · rw [if_neg c2] at b
        have S' := LV.scan_next hle S (by omega) c1 c2
        have ih := nt_loop G hb hs k (p + 1) _ _ _ _ (by omega) S' (by split <;> assumption) (by split <;> assumption)
        have e : forXL body (.int (p : Int) :: rngF (p + 1) bs.length) (prD u i, prD v j) = forXL body (rngF (p + 1) bs.length) (prD (if u < LV.up (hiR bs) a h p then u else LV.up (hiR bs) a h p) (if u < LV.up (hiR bs) a h p then i else p), prD (if LV.up (loR bs) a h p < v then v else LV.up (loR bs) a h p) (if LV.up (loR bs) a h p < v then j else p)) := by
          show tb (body (.int (p : Int)) (prD u i, prD v j)) _ = _
          rw [b]
          have e1 : (if u < LV.up (hiR bs) a h p then prD u i else prD (LV.up (hiR bs) a h p) p) = prD (if u < LV.up (hiR bs) a h p then u else LV.up (hiR bs) a h p) (if u < LV.up (hiR bs) a h p then i else p) := by split <;> rfl
          have e2 : (if LV.up (loR bs) a h p < v then prD v j else prD (LV.up (loR bs) a h p) p) = prD (if LV.up (loR bs) a h p < v then v else LV.up (loR bs) a h p) (if LV.up (loR bs) a h p < v then j else p) := by split <;> rfl
          rw [e1, e2]
          rfl
        rw [e]
        exact ih
def NT (bs : List (Int × Int)) (a : Nat) (h : Int) (t : TM D) : Prop := ∃ (q : Nat) (y : Int) (s : Rat), t = tp (.tup [.int (q : Int), fr (y : Rat)]) ∧ LV.Stage bs.length (loR bs) (hiR bs) a h q y s ∧ -9999 ≤ y ∧ y ≤ 9999
theorem nt_main (G : GoodB bs) {a : Nat} {h : Int} (ha : a + 1 < bs.length) {body : D → D × D → TM (Lx (D × D))}
    (h0 : ∀ p, a < p → p < bs.length → body (.int (p : Int)) (nnD, nnD) = tp (.go (prD (LV.up (hiR bs) a h p) p, prD (LV.up (loR bs) a h p) p)))
    (hb : ∀ p u i v j, a < p → p < bs.length → Sm 2000 u → Sm 2000 v → i < bs.length → j < bs.length → body (.int (p : Int)) (prD u i, prD v j) =
      if u < LV.up (loR bs) a h p then tp (.rt (.tup [.int (i : Int), fr (hiR bs i)])) else if LV.up (hiR bs) a h p < v then tp (.rt (.tup [.int (j : Int), fr (loR bs j)]))
      else tp (.go (if u < LV.up (hiR bs) a h p then prD u i else prD (LV.up (hiR bs) a h p) p, if LV.up (loR bs) a h p < v then prD v j else prD (LV.up (loR bs) a h p) p)))
    (hs : ∀ p, a < p → p < bs.length → Sm 2000 (LV.up (loR bs) a h p) ∧ Sm 2000 (LV.up (hiR bs) a h p)) {k : D × D → TM D} (hk : ∀ s, k s = tp (.tup [.int ((bs.length : Int) - 1), fr (loR bs (bs.length - 1))])) :
    NT bs a h (tb (forXL body (rngF (a + 1) bs.length) (nnD, nnD)) fun o => tFin o (fun x => tp x) k) := by
  have e : forXL body (rngF (a + 1) bs.length) (nnD, nnD) = forXL body (rngF (a + 2) bs.length) (prD (LV.up (hiR bs) a h (a + 1)) (a + 1), prD (LV.up (loR bs) a h (a + 1)) (a + 1)) := by
    rw [rngF_cons ha]
    show tb (body (.int ((a + 1 : Nat) : Int)) (nnD, nnD)) _ = _
    rw [h0 (a + 1) (by omega) ha]
    rfl
  obtain ⟨s1, s2⟩ := hs (a + 1) (by omega) ha
  unfold NT
  rw [e]
  rcases nt_loop G hb hs (bs.length - (a + 2)) (a + 2) _ _ _ _ (by omega) (LV.scan_first G.bd.le ha) s2 s1 with ⟨q, y, s, e, S, y1, y2⟩ | ⟨st, e, u, i, v, j, S⟩
  · rw [e]
    exact ⟨q, y, s, rfl, S, y1, y2⟩
  · rw [e]
    have := G.at (i := bs.length - 1) (by omega)
    refine ⟨bs.length - 1, loI bs (bs.length - 1), _, ?_, LV.scan_end G.bd S, by omega, by omega⟩
    show k st = _
    rw [hk, show ((bs.length - 1 : Nat) : Int) = (bs.length : Int) - 1 by omega]
    rfl
def segR (a q : Nat) (h s : Rat) : List Rat := (List.range (q - a)).map fun k : Nat => h + s * ((k : Rat) + 1)
theorem seg_len (a q : Nat) (h s : Rat) : (segR a q h s).length = q - a := by unfold segR; simp
def xf (l : List Rat) (i : Nat) : Rat := l.getD i 0
theorem xf_app {l m : List Rat} {i : Nat} (h : i < l.length) : xf (l ++ m) i = xf l i := by
  unfold xf
  simp [List.getD, List.getElem?_append_left h]
theorem fx_val {z : Int} {v : Rat} (e : v = Rat.divInt z 840) (h1 : -9999 ≤ v) (h2 : v ≤ 9999) : Fx 840 8399160 v := by
  refine ⟨by decide, z, e, ?_⟩
  have e2 : v = (z : Rat) / 840 := by rw [e, Rat.divInt_eq_div]; rfl
  have h3 : (z : Rat) ≤ ((8399160 : Int) : Rat) := by grind
  have h4 : ((-8399160 : Int) : Rat) ≤ (z : Rat) := by grind
  have h3 := Rat.intCast_le_intCast.mp h3
  have h4 := Rat.intCast_le_intCast.mp h4
  omega
theorem seg_get {a q : Nat} {h s : Rat} {k : Nat} (hk : k < q - a) : (segR a q h s)[k]? = some (h + s * ((k : Rat) + 1)) := by
  unfold segR
  rw [List.getElem?_map, List.getElem?_range hk]
  rfl
theorem lohi9 (G : GoodB bs) {i : Nat} (h : i < bs.length) : (-9999 : Rat) ≤ loR bs i ∧ hiR bs i ≤ 9999 := by
  have := G.at h
  unfold loR hiR
  have a : ((-9999 : Int) : Rat) ≤ ((loI bs i : Int) : Rat) := Rat.intCast_le_intCast.mpr this.1
  have b : ((hiI bs i : Int) : Rat) ≤ ((9999 : Int) : Rat) := Rat.intCast_le_intCast.mpr this.2.2
  exact ⟨a, b⟩
theorem seg_fx (G : GoodB bs) {a q : Nat} {h y : Int} {s : Rat} (S : LV.Stage bs.length (loR bs) (hiR bs) a h q y s) : FxL 840 8399160 (segR a q h s) := by
  intro v hv
  obtain ⟨k, hk, e⟩ := List.mem_iff_getElem.mp hv
  rw [seg_len] at hk
  have e2 := seg_get (h := (h : Rat)) (s := s) hk
  rw [List.getElem?_eq_getElem (by rw [seg_len]; exact hk), e] at e2
  have e2 := Option.some.inj e2
  have ln := S.ln
  have lt := S.lt
  have nine := G.nine
  obtain ⟨c, hc⟩ : ∃ c : Int, 840 = c * ((q : Int) - a) := by
    have : q - a = 1 ∨ q - a = 2 ∨ q - a = 3 ∨ q - a = 4 ∨ q - a = 5 ∨ q - a = 6 ∨ q - a = 7 ∨ q - a = 8 := by omega
    rcases this with h | h | h | h | h | h | h | h
    · exact ⟨840, by omega⟩
    · exact ⟨420, by omega⟩
    · exact ⟨280, by omega⟩
    · exact ⟨210, by omega⟩
    · exact ⟨168, by omega⟩
    · exact ⟨140, by omega⟩
    · exact ⟨120, by omega⟩
    · exact ⟨105, by omega⟩
  have hi := S.inn (a + k + 1) (by omega) (by omega)
  have b := lohi9 G (i := a + k + 1) (by omega)
  have ek : ((a + k + 1 : Nat) : Rat) - (a : Rat) = (k : Rat) + 1 := by
    have : ((a + k + 1 : Nat) : Rat) = (a : Rat) + (k : Rat) + 1 := by simp
    grind
  rw [ek, ← e2] at hi
  refine fx_val (z := 840 * h + (y - h) * (k + 1) * c) ?_ (by grind) (by grind)
  have hp := LV.cast_pos lt
  have hcr : (840 : Rat) = (c : Rat) * ((q : Rat) - (a : Rat)) := by
    have : ((840 : Int) : Rat) = ((c * ((q : Int) - a) : Int) : Rat) := by rw [hc]
    rw [Rat.intCast_mul, Rat.intCast_sub] at this
    exact this
  have at' := S.at'
  have e3 : Rat.divInt (840 * h + (y - h) * (k + 1) * c) 840 = ((840 * h + (y - h) * (k + 1) * c : Int) : Rat) / 840 := by rw [Rat.divInt_eq_div]; rfl
  have e4 : ((840 * h + (y - h) * (k + 1) * c : Int) : Rat) = 840 * (h : Rat) + ((y : Rat) - (h : Rat)) * ((k : Rat) + 1) * (c : Rat) := by
    simp [Rat.intCast_natCast]
  rw [e3, e4, e2]
  have e5 : ((y : Rat) - (h : Rat)) * ((k : Rat) + 1) * (c : Rat) = 840 * (s * ((k : Rat) + 1)) := by
    rw [at', hcr]; grind
  rw [e5]
  grind
theorem noLsts_fr : ∀ l : List Rat, noLsts (l.map fr) = true
  | [] => rfl
  | x :: l => by
    show (noLst (fr x) && noLsts (l.map fr)) = true
    rw [noLsts_fr l]
    rfl
structure LevelOf (bs : List (Int × Int)) (l : List Rat) : Prop where
  len : l.length = bs.length
  wi : LV.Wi bs.length (loR bs) (hiR bs) (xf l)
  lev : LV.Lev bs.length (loR bs) (hiR bs) (xf l)
  fx : FxL 840 8399160 l
def LRok (bs : List (Int × Int)) (t : TM D) : Prop := ∃ l : List Rat, t = tp (.tup (l.map fr)) ∧ LevelOf bs l
noncomputable def bP (P : Prop) : Bool := @decide P (Classical.propDecidable P)
theorem bP_t {P : Prop} (h : P) : bP P = true := @decide_eq_true P (Classical.propDecidable P) h
theorem bP_f {P : Prop} (h : ¬P) : bP P = false := @decide_eq_false P (Classical.propDecidable P) h
theorem bP_iff {P : Prop} : bP P = true ↔ P := @decide_eq_true_iff P (Classical.propDecidable P)
theorem bP_congr {P Q : Prop} (h : P ↔ Q) : bP P = bP Q := congrArg bP (propext h)
theorem bP_dec (P : Prop) [Decidable P] : decide P = bP P := by
  by_cases h : P
  · rw [decide_eq_true h, bP_t h]
  · rw [decide_eq_false h, bP_f h]
variable {bs : List (Int × Int)} {l : List Rat}
theorem sm_lo (G : GoodB bs) {i : Nat} (h : i < bs.length) : Sm 20 (loR bs i) ∧ Sm 20 (hiR bs i) := by
  have := G.at h
  exact ⟨sm9 (by omega) (by omega), sm9 (by omega) (by omega)⟩
theorem fm_nil {f : Nat → Option D} {n : Nat} : ((List.range n).filterMap f = []) ↔ ∀ i, i < n → f i = none := by
  rw [List.filterMap_eq_nil_iff]
  exact ⟨fun h i hi => h i (List.mem_range.mpr hi), fun h i hi => h i (List.mem_range.mp hi)⟩
theorem cut1_int (f : Nat → Option D) (n : Nat) (hf : ∀ i d, f i = some d → ∃ k : Int, d = .int k) : ∃ xs : List D, cutD (.lst ((List.range n).filterMap f)) none (some 1) = some (.lst xs) ∧ eqD (.lst xs) (.lst []) = some (.bl (bP (∀ i, i < n → f i = none))) ∧ ((∀ i, i < n → f i = none) → xs = []) ∧ xs.length ≤ 1 := by
  refine ⟨_, rfl, ?_, fun h => ?_, ?_⟩
  · cases e : (List.range n).filterMap f with
    | nil =>
      rw [bP_t (fm_nil.mp e)]
      have : cutDs ([] : List D) none (some 1) = [] := by unfold cutDs; simp
      rw [this]
      rfl
    | cons x xs =>
      have hn : ¬ ∀ i, i < n → f i = none := fun h => by rw [fm_nil.mpr h] at e; cases e
      rw [bP_f hn]
      have : cutDs (x :: xs) none (some 1) = [x] := by
        have h : HT.sIx (x :: xs).length (x :: xs).length (some 1) = 1 := by
          show (if (1 : Int) < 0 then ((1 : Int) + ((x :: xs).length : Int)).toNat else min (1 : Int).toNat (xs.length + 1)) = 1
          rw [if_neg (by decide)]
          show min 1 (xs.length + 1) = 1
          omega
        unfold cutDs
        rw [h]
        rfl
      rw [this]
      have hx : x ∈ (List.range n).filterMap f := by rw [e]; exact List.mem_cons_self ..
      obtain ⟨i, _, hi⟩ := List.mem_filterMap.mp hx
      obtain ⟨k, rfl⟩ := hf i x hi
      rfl
  · rw [fm_nil.mpr h]
    unfold cutDs
    simp
  · unfold cutDs
    rw [List.length_take]
    have h : HT.sIx ((List.range n).filterMap f).length ((List.range n).filterMap f).length (some 1) ≤ 1 := by
      show (if (1 : Int) < 0 then ((1 : Int) + (((List.range n).filterMap f).length : Int)).toNat else min (1 : Int).toNat ((List.range n).filterMap f).length) ≤ 1
      rw [if_neg (by decide)]
      show min 1 ((List.range n).filterMap f).length ≤ 1
      omega
    omega
def Within (bs : List (Int × Int)) (l : List Rat) : Prop := LV.Wi bs.length (loR bs) (hiR bs) (xf l)
def LevelP (bs : List (Int × Int)) (l : List Rat) : Prop := LV.Lev bs.length (loR bs) (hiR bs) (xf l)
def Smn (k : Nat) (l : List Rat) : Prop := ∀ x ∈ l, Sm k x
theorem Smn.at {k : Nat} (h : Smn k l) {i : Nat} (hi : i < l.length) : Sm k (xf l i) := by
  unfold xf
  rw [show l.getD i 0 = l[i] by simp [List.getD, List.getElem?_eq_getElem hi]]
  exact h _ (List.getElem_mem hi)
theorem xf_ix {i : Nat} (hi : i < l.length) : ixD (.tup (l.map fr)) (.int (i : Int)) = some (fr (xf l i)) := by
  unfold xf
  rw [d_ixm hi, show l.getD i 0 = l[i] by simp [List.getD, List.getElem?_eq_getElem hi]]
def wordR (a b : Rat) : D := if a < b then .str "up" else if b < a then .str "down" else .str "straight"
theorem st_get {i : Nat} (h : i + 1 < l.length) : xf (stepsR l) i = LV.st (xf l) i := by
  unfold xf LV.st
  simp only [List.getD]
  rw [steps_get l i h]
  simp [List.getElem?_eq_getElem h, List.getElem?_eq_getElem (show i < l.length by omega)]
def wordsR (l : List Rat) : List D := (List.range (l.length - 2)).map fun i => wordR (LV.st (xf l) i) (LV.st (xf l) (i + 1))
theorem sm_steps {k : Nat} (hs : Smn k l) : Smn (k + k + 1) (stepsR l) := fun x hx => by
  obtain ⟨i, hi, rfl⟩ := steps_mem hx
  exact sm_sub (hs _ (List.getElem_mem _)) (hs _ (List.getElem_mem _))
theorem w_us : eqD (.str "up") (.str "straight") = some (.bl false) := by unfold eqD; rw [show eqB (.str "up") (.str "straight") = some false by decide +kernel]; rfl
theorem w_ds : eqD (.str "down") (.str "straight") = some (.bl false) := by unfold eqD; rw [show eqB (.str "down") (.str "straight") = some false by decide +kernel]; rfl
theorem w_ss : eqD (.str "straight") (.str "straight") = some (.bl true) := by unfold eqD; rw [show eqB (.str "straight") (.str "straight") = some true by decide +kernel]; rfl
theorem w_ud : eqD (.str "up") (.str "down") = some (.bl false) := by unfold eqD; rw [show eqB (.str "up") (.str "down") = some false by decide +kernel]; rfl
theorem w_dd : eqD (.str "down") (.str "down") = some (.bl true) := by unfold eqD; rw [show eqB (.str "down") (.str "down") = some true by decide +kernel]; rfl
theorem w_sd : eqD (.str "straight") (.str "down") = some (.bl false) := by unfold eqD; rw [show eqB (.str "straight") (.str "down") = some false by decide +kernel]; rfl
theorem w_uu : eqD (.str "up") (.str "up") = some (.bl true) := by unfold eqD; rw [show eqB (.str "up") (.str "up") = some true by decide +kernel]; rfl
theorem w_du : eqD (.str "down") (.str "up") = some (.bl false) := by unfold eqD; rw [show eqB (.str "down") (.str "up") = some false by decide +kernel]; rfl
theorem w_su : eqD (.str "straight") (.str "up") = some (.bl false) := by unfold eqD; rw [show eqB (.str "straight") (.str "up") = some false by decide +kernel]; rfl
def touchP (lo hi x a b : Rat) : Prop := (b < a → x = lo) ∧ (a < b → x = hi)
theorem lev_touch {i : Nat} : touchP (loR bs (i + 1)) (hiR bs (i + 1)) (xf l (i + 1)) (LV.st (xf l) i) (LV.st (xf l) (i + 1)) ↔ LV.LevAt (loR bs) (hiR bs) (xf l) i := Iff.rfl
noncomputable def looseR (bs : List (Int × Int)) (l : List Rat) : List D := (List.range (l.length - 2)).filterMap fun i => if bP (LV.LevAt (loR bs) (hiR bs) (xf l) i) = true then none else some (.int ((i : Int) + 1))
theorem loose_nil (hl : l.length = bs.length) (h2 : 2 ≤ bs.length) : looseR bs l = [] ↔ LevelP bs l := by
  unfold looseR
  rw [fm_nil]
  constructor
  · intro h i hi
    have := h i (by omega)
    by_cases c : bP (LV.LevAt (loR bs) (hiR bs) (xf l) i) = true
    · exact bP_iff.mp c
    · rw [if_neg c] at this; cases this
  · intro h i hi
    rw [if_pos (bP_t (h i (by omega)))]
theorem loose_int {x : D} (h : x ∈ looseR bs l) : ∃ k : Int, x = .int k := by
  obtain ⟨i, _, hi⟩ := List.mem_filterMap.mp h
  split at hi
  · cases hi
  · cases hi; exact ⟨_, rfl⟩
theorem d_eqP {d e : D} (h1 : niceB 60 d = true) (h2 : niceB 60 e = true) : eqD d e = some (.bl (bP (d = e))) := by
  obtain ⟨b, h, _, k⟩ := eq_nice h1 h2
  rw [h]
  cases b with
  | true => rw [bP_t (k.mp rfl)]
  | false => rw [bP_f (fun z => by have := k.mpr z; cases this)]
theorem eq_nil_tup (xs : List D) (h : ∀ x ∈ xs, ∃ k : Int, x = .int k) : eqD (.tup xs) (.tup []) = some (.bl (bP (xs = []))) := by
  have n : niceB 60 (.tup xs) = true := List.all_eq_true.mpr fun x hx => by
    obtain ⟨k, rfl⟩ := h x hx
    rfl
  rw [d_eqP n rfl]
  exact congrArg (fun b => some (D.bl b)) (bP_congr (by rw [D.tup.injEq]))
theorem level_iff (G : GoodB bs) {l0 : List Rat} (L : LevelOf bs l0) (hl : l.length = bs.length) : (Within bs l ∧ LevelP bs l) ↔ l = l0 := by
  constructor
  · rintro ⟨h1, h2⟩
    have := LV.unique G.bd L.wi L.lev h1 h2
    apply List.ext_getElem
    · rw [hl, L.len]
    · intro i h3 h4
      have h := this i (by omega)
      unfold xf at h
      simpa [List.getD, List.getElem?_eq_getElem h3, List.getElem?_eq_getElem h4] using h
  · rintro rfl
    exact ⟨L.wi, L.lev⟩
theorem noLst_pD (p : Int × Int) : noLst (pD p) = true := rfl
theorem noLsts_pD : ∀ ps : List (Int × Int), noLsts (ps.map pD) = true
  | [] => rfl
  | p :: ps => by
    show (noLst (pD p) && noLsts (ps.map pD)) = true
    rw [noLsts_pD ps]
    rfl
theorem setIx_map {α : Type} {xs : List α} {f : α → D} {i : Nat} (h : i < xs.length) (d : α) : setIx (f d) (.int (i : Int)) (xs.map f) = some ((xs.set i d).map f) := by
  have := set_nat (ds := xs.map f) (d := f d) (i := (i : Int)) (by omega) (by simpa using h)
  rw [this, Int.toNat_natCast, List.map_set]
theorem pick2 {p : Int × Int} (h : PairOk p) {t : Int} (t0 : 0 ≤ t) (t1 : t < 2) : ∃ v, ixD (pD p) (.int t) = some (.int v) ∧ -9999 ≤ v ∧ v ≤ 9999 := by
  obtain ⟨a, b, c⟩ := h
  rcases (by omega : t = 0 ∨ t = 1) with rfl | rfl
  · exact ⟨_, d_ix0 _ _, by omega, by omega⟩
  · exact ⟨_, d_ix1 _ _ _, by omega, by omega⟩
theorem set_ok {ps : List (Int × Int)} {i : Nat} {d : Int × Int} (h : ∀ p ∈ ps, PairOk p) (hd : PairOk d) : ∀ p ∈ ps.set i d, PairOk p := fun p hp => by
  rcases List.mem_or_eq_of_mem_set hp with h1 | h1
  · exact h p h1
  · rw [h1]; exact hd
theorem getD_set {ps : List (Int × Int)} {i j : Nat} {d : Int × Int} (hj : i < ps.length) : (ps.set i d).getD j (0, 0) = if i = j then d else ps.getD j (0, 0) := by
  simp only [List.getD, List.getElem?_set]
  split
  · rename_i e; simp [hj]
  · rfl
theorem fx42 {lo hi at' parts : Int} (hp : parts = 1 ∨ parts = 2 ∨ parts = 3 ∨ parts = 7) (h : PairOk (lo, hi)) (a0 : 0 ≤ at') (a1 : at' ≤ parts) :
    (lo : Rat) ≤ Rat.divInt (lo * parts + (hi - lo) * at') parts ∧ Rat.divInt (lo * parts + (hi - lo) * at') parts ≤ (hi : Rat) ∧ Fx 42 419958 (Rat.divInt (lo * parts + (hi - lo) * at') parts) := by
  obtain ⟨h1, h2, h3⟩ := h
  simp only at h1 h2 h3
  have p0 : 0 < parts := by omega
  have m1 : 0 ≤ (hi - lo) * at' := Int.mul_nonneg (by omega) a0
  have m2 : (hi - lo) * at' ≤ (hi - lo) * parts := Int.mul_le_mul_of_nonneg_left a1 (by omega)
  have m6 : (hi - lo) * parts = hi * parts - lo * parts := Int.sub_mul ..
  have b := btw_rat.mp (btw_div (lo := lo) (hi := hi) (n := lo * parts + (hi - lo) * at') p0 (by omega) (by omega))
  refine ⟨b.1, b.2, ?_⟩
  have l9 : ((-9999 : Int) : Rat) ≤ (lo : Rat) := Rat.intCast_le_intCast.mpr h1
  have h9 : (hi : Rat) ≤ ((9999 : Int) : Rat) := Rat.intCast_le_intCast.mpr h3
  obtain ⟨c, hc⟩ : ∃ c : Int, 42 = c * parts := by
    rcases hp with rfl | rfl | rfl | rfl
    · exact ⟨42, by decide⟩
    · exact ⟨21, by decide⟩
    · exact ⟨14, by decide⟩
    · exact ⟨6, by decide⟩
  have e : Rat.divInt (lo * parts + (hi - lo) * at') parts = Rat.divInt (c * (lo * parts + (hi - lo) * at')) 42 := by
    rw [hc, divInt_scale]
    intro z
    rw [z, Int.zero_mul] at hc
    cases hc
  generalize Rat.divInt (lo * parts + (hi - lo) * at') parts = v at *
  generalize c * (lo * parts + (hi - lo) * at') = z at *
  refine ⟨by decide, z, e, ?_⟩
  have e2 : v = (z : Rat) / 42 := by rw [e, Rat.divInt_eq_div]; rfl
  have h3 : (z : Rat) ≤ ((419958 : Int) : Rat) := by
    have : ((9999 : Int) : Rat) = 9999 := rfl
    have : ((419958 : Int) : Rat) = 419958 := rfl
    grind
  have h4 : ((-419958 : Int) : Rat) ≤ (z : Rat) := by
    have : ((-9999 : Int) : Rat) = -9999 := rfl
    have : ((-419958 : Int) : Rat) = -419958 := rfl
    grind
  have h3 := Rat.intCast_le_intCast.mp h3
  have h4 := Rat.intCast_le_intCast.mp h4
  omega
def OutR (b : Prop) (t : TM D) : Prop := ∃ d : D, t = tp d ∧ isNoneD d .non = some (.bl (bP b))
theorem noLsts_words : ∀ ws : List D, (∀ w ∈ ws, noLst w = true) → noLsts ws = true
  | [], _ => rfl
  | w :: ws, h => by
    show (noLst w && noLsts ws) = true
    rw [h w (List.mem_cons_self ..), noLsts_words ws fun x hx => h x (List.mem_cons_of_mem _ hx)]
    rfl
theorem noLst_word (a b : Rat) : noLst (wordR a b) = true := by unfold wordR; split <;> (try split) <;> rfl
theorem range_cast1 (n : Nat) (h : n ≤ 1000) : range1 [.int (n : Int)] = some ((List.range n).map fun i : Nat => .int (i : Int)) := d_range1 (by omega)
theorem foldl_app {α : Type} (f : α → D) (xs : List α) (acc : List D) : xs.foldl (fun s x => s ++ [f x]) acc = acc ++ xs.map f := by
  induction xs generalizing acc with
  | nil => simp
  | cons x xs ih => rw [List.foldl_cons, ih]; simp
theorem FxL.smn {N M k : Nat} (h : FxL N M l) (h1 : N < 2 ^ k) (h2 : M < 2 ^ k) : Smn k l := fun x hx => (h x hx).sm h1 h2
theorem Smn.up {k j : Nat} (h : Smn k l) (e : k ≤ j) : Smn j l := fun x hx => (h x hx).mono e
theorem sum_range (f : Nat → Rat) : ∀ n : Nat, ((List.range n).map f).sum = LV.sum n f
  | 0 => rfl
  | n + 1 => by
    rw [List.range_succ, List.map_append, List.sum_append, sum_range f n]
    show LV.sum n f + (f n + 0) = LV.sum n f + f n
    rw [Rat.add_zero]
theorem sq_link (l : List Rat) : sqR l = LV.sq l.length (xf l) := by
  unfold sqR LV.sq
  rw [steps_eq, List.map_map, ← sum_range]
  rfl
theorem least_sq (G : GoodB bs) {l0 : List Rat} (L : LevelOf bs l0) (hl : l.length = bs.length) (hw : Within bs l) (hne : l ≠ l0) : sqR l0 < sqR l := by
  have h := LV.least G.bd L.wi L.lev hw
  rw [sq_link, sq_link, L.len, hl]
  rcases Classical.em (LV.sq bs.length (xf l0) < LV.sq bs.length (xf l)) with c | c
  · exact c
  · exfalso
    apply hne
    have hh := h.2 (by grind)
    apply List.ext_getElem
    · rw [hl, L.len]
    · intro i h3 h4
      have h := hh i (by omega)
      unfold xf at h
      simpa [List.getD, List.getElem?_eq_getElem h3, List.getElem?_eq_getElem h4] using h
def halfR (l0 l : List Rat) : List Rat := (List.range l.length).map fun i => (xf l0 i + xf l i) / 2
theorem half_len (l0 l : List Rat) : (halfR l0 l).length = l.length := by unfold halfR; simp
theorem half_get (l0 l : List Rat) {i : Nat} (h : i < l.length) : xf (halfR l0 l) i = (xf l0 i + xf l i) / 2 := by
  unfold halfR
  show List.getD _ i 0 = _
  simp [List.getD, List.getElem?_map, List.getElem?_range h]
theorem ne_at {l0 : List Rat} (e : l.length = l0.length) (hne : l ≠ l0) : ∃ i, i < l.length ∧ xf l i ≠ xf l0 i := by
  rcases Classical.em (∃ i, i < l.length ∧ xf l i ≠ xf l0 i) with c | c
  · exact c
  · exfalso
    apply hne
    apply List.ext_getElem e
    intro i h3 h4
    rcases Classical.em (xf l i = xf l0 i) with h | h
    · unfold xf at h
      simpa [List.getD, List.getElem?_eq_getElem h3, List.getElem?_eq_getElem h4] using h
    · exact absurd ⟨i, h3, h⟩ c
theorem half_sq (G : GoodB bs) {l0 : List Rat} (L : LevelOf bs l0) (hl : l.length = bs.length) (hw : Within bs l) (hne : l ≠ l0) : sqR (halfR l0 l) < sqR l := by
  obtain ⟨i, hi, h⟩ := ne_at (by rw [hl, L.len]) hne
  have := LV.half G.bd L.wi L.lev hw (1 / 2) (by grind) (by grind) ⟨i, by omega, h⟩
  rw [sq_link, sq_link, half_len, hl]
  have e : LV.sq bs.length (xf (halfR l0 l)) = LV.sq bs.length (fun k => xf l0 k + 1 / 2 * (xf l k - xf l0 k)) := by
    unfold LV.sq
    refine LV.sum_congr fun i hi => ?_
    unfold LV.st
    rw [half_get l0 l (by omega), half_get l0 l (by omega)]
    grind
  rw [e]
  exact this
theorem half_ne {l0 : List Rat} (e : l.length = l0.length) (hne : l ≠ l0) : halfR l0 l ≠ l0 := by
  obtain ⟨i, hi, h⟩ := ne_at e hne
  intro z
  have := half_get l0 l hi
  rw [z] at this
  grind
theorem half_fx {l0 : List Rat} (e : l.length = l0.length) (h0 : FxL 840 8399160 l0) (h : FxL 42 419958 l) : FxL 1680 16798320 (halfR l0 l) := by
  intro x hx
  obtain ⟨i, hi, rfl⟩ := List.mem_map.mp hx
  have hi := List.mem_range.mp hi
  have m1 : xf l0 i ∈ l0 := by
    unfold xf
    rw [List.getD, List.getElem?_eq_getElem (show i < l0.length by omega)]
    exact List.getElem_mem _
  have m2 : xf l i ∈ l := by
    unfold xf
    rw [List.getD, List.getElem?_eq_getElem hi]
    exact List.getElem_mem _
  have f2 := (h _ m2).lift (c := 20) (by decide)
  have f := (h0 _ m1).add f2
  have fh : Fx 2 1 (1 / 2 : Rat) := ⟨by decide, 1, by rw [Rat.div_def, Rat.divInt_eq_div]; rfl, by decide⟩
  have g := f.mul fh
  have e2 : (xf l0 i + xf l i) * (1 / 2) = (xf l0 i + xf l i) / 2 := by grind
  rw [e2] at g
  exact g
theorem d_eqRun (l m : List Rat) : eqD (.tup (l.map fr)) (.tup (m.map fr)) = some (.bl (bP (l = m))) := by
  have n : ∀ l : List Rat, niceB 60 (.tup (l.map fr)) = true := fun l => List.all_eq_true.mpr fun x hx => by
    obtain ⟨q, _, rfl⟩ := List.mem_map.mp hx
    rfl
  rw [d_eqP (n l) (n m)]
  refine congrArg (fun b => some (D.bl b)) (bP_congr ⟨fun h => ?_, fun h => by rw [h]⟩)
  injection h with h
  exact (List.map_inj_right (fun a b h => fr_inj.mp h)).mp h
theorem sm_sqR {N M : Nat} (h : FxL N M l) (h0 : 0 < N) (hN : N < 2 ^ 90) (hM : M < 2 ^ 90) (h9 : l.length ≤ 9) : Sm 240 (sqR l) := by
  have hx : ∀ x ∈ (stepsR l).map (fun x => x * x), Fx (N * N) ((M + M) * (M + M)) x := fun x hx => by
    obtain ⟨s, h1, rfl⟩ := List.mem_map.mp hx
    exact (h.steps s h1).mul (h.steps s h1)
  have f := Fx.sum (Nat.mul_pos h0 h0) hx
  have e : ((stepsR l).map fun x => x * x).length ≤ 9 := by rw [List.length_map, steps_len]; omega
  have f2 := f.up (M' := 9 * ((M + M) * (M + M))) (Nat.mul_le_mul_right _ e)
  have k1 : N * N < 2 ^ 90 * 2 ^ 90 := Nat.mul_lt_mul'' hN hN
  have k2 : (M + M) * (M + M) < 2 ^ 91 * 2 ^ 91 := Nat.mul_lt_mul'' (by omega) (by omega)
  have k3 : (2 : Nat) ^ 90 * 2 ^ 90 ≤ 2 ^ 240 := by decide
  have k4 : 9 * ((2 : Nat) ^ 91 * 2 ^ 91) ≤ 2 ^ 240 := by decide
  exact f2.sm (Nat.lt_of_lt_of_le k1 k3) (Nat.lt_of_lt_of_le (Nat.mul_lt_mul_of_pos_left k2 (by decide)) k4)
def rgI (p : Int × Int) : List Int := (List.range (p.2 + 1 - p.1).toNat).map fun i : Nat => p.1 + (i : Int)
theorem d_rgI {p : Int × Int} (h : PairOk p) : range2 [.int p.1, .int (p.2 + 1)] = some ((rgI p).map .int) := by
  obtain ⟨h1, h2, h3⟩ := h
  show (if rgOk p.1 && rgOk (p.2 + 1) then some (rgD p.1 (p.2 + 1 - p.1).toNat) else none) = _
  rw [if_pos (by simp [rgOk]; omega)]
  unfold rgI rgD
  rw [List.map_map]
  rfl
def iD (i : Int) : D := .tup [.int i, .int 1]
def encR (r : List Int) : D := .tup (r.map iD)
def addR (acc : List (List Int)) (p : Int × Int) (r : List Int) : List (List Int) := acc ++ (rgI p).map fun i => r ++ [i]
def stepI (rows : List (List Int)) (p : Int × Int) : List (List Int) := rows.foldl (fun acc r => addR acc p r) []
def OkR (ps : List (Int × Int)) (r : List Int) : Prop := r.length = ps.length ∧ ∀ i, i < ps.length → (ps.getD i (0, 0)).1 ≤ r.getD i 0 ∧ r.getD i 0 ≤ (ps.getD i (0, 0)).2
theorem mem_step {rows : List (List Int)} {p : Int × Int} {r : List Int} (h : r ∈ stepI rows p) : ∃ q ∈ rows, ∃ i, p.1 ≤ i ∧ i ≤ p.2 ∧ r = q ++ [i] := by
  have gen : ∀ (rows acc : List (List Int)), r ∈ rows.foldl (fun acc r => addR acc p r) acc → r ∈ acc ∨ ∃ q ∈ rows, ∃ i, p.1 ≤ i ∧ i ≤ p.2 ∧ r = q ++ [i] := by
    intro rows
    induction rows with
    | nil => intro acc h; exact .inl h
    | cons q rows ih =>
      intro acc h
      rw [List.foldl_cons] at h
      rcases ih _ h with h | ⟨q', h1, h2⟩
      · rcases List.mem_append.mp h with h | h
        · exact .inl h
        · obtain ⟨i, hi, rfl⟩ := List.mem_map.mp h
          obtain ⟨k, hk, rfl⟩ := List.mem_map.mp hi
          have := List.mem_range.mp hk
          exact .inr ⟨q, List.mem_cons_self .., _, by omega, by omega, rfl⟩
      · exact .inr ⟨q', List.mem_cons_of_mem _ h1, h2⟩
  rcases gen rows [] h with h | h
  · cases h
  · exact h
theorem ok_step {ps : List (Int × Int)} {rows : List (List Int)} {p : Int × Int} (h : ∀ r ∈ rows, OkR ps r) : ∀ r ∈ stepI rows p, OkR (ps ++ [p]) r := by
  intro r hr
  obtain ⟨q, hq, i, h1, h2, rfl⟩ := mem_step hr
  obtain ⟨g1, g2⟩ := h q hq
  refine ⟨by simp [g1], fun k hk => ?_⟩
  rw [List.length_append, List.length_singleton] at hk
  by_cases c : k < ps.length
  · have := g2 k c
    simp only [List.getD, List.getElem?_append_left c, List.getElem?_append_left (show k < q.length by omega)] at this ⊢
    exact this
  · have hk : k = ps.length := by omega
    subst hk
    have e1 : (ps ++ [p]).getD ps.length (0, 0) = p := by simp [List.getD]
    have e2 : (q ++ [i]).getD ps.length 0 = i := by rw [← g1]; simp [List.getD]
    rw [e1, e2]
    exact ⟨h1, h2⟩
theorem okR_all : ∀ (rest done : List (Int × Int)) (rows : List (List Int)), (∀ r ∈ rows, OkR done r) → ∀ r ∈ rest.foldl stepI rows, OkR (done ++ rest) r
  | [], done, rows, h => by rw [List.append_nil]; exact h
  | p :: rest, done, rows, h => by
    have := okR_all rest (done ++ [p]) (stepI rows p) (ok_step h)
    rw [List.append_assoc] at this
    exact this
theorem rg_len {p : Int × Int} (h : p.2 - p.1 ≤ 2) : (rgI p).length ≤ 3 := by unfold rgI; rw [List.length_map, List.length_range]; omega
theorem step_len {rows : List (List Int)} {p : Int × Int} (h : p.2 - p.1 ≤ 2) : (stepI rows p).length ≤ 3 * rows.length := by
  have gen : ∀ (rows acc : List (List Int)), (rows.foldl (fun acc r => addR acc p r) acc).length ≤ acc.length + 3 * rows.length := by
    intro rows
    induction rows with
    | nil => intro acc; simp
    | cons q rows ih =>
      intro acc
      rw [List.foldl_cons]
      have := ih (addR acc p q)
      have e : (addR acc p q).length = acc.length + (rgI p).length := by unfold addR; simp
      have := rg_len h
      simp only [List.length_cons]
      omega
  have := gen rows []
  rw [List.length_nil, Nat.zero_add] at this
  exact this
def runsI (bs : List (Int × Int)) : List (List Int) := bs.foldl stepI [[]]
theorem pow3 {n : Nat} (h : n ≤ 5) : 3 ^ n ≤ 243 := Nat.le_trans (Nat.pow_le_pow_right (by decide) h) (by decide)
def castR (r : List Int) : List Rat := r.map fun i : Int => (i : Rat)
theorem enc_cast (r : List Int) : encR r = .tup ((castR r).map fr) := by
  unfold encR castR
  rw [List.map_map]
  rfl
theorem cast_get {r : List Int} {i : Nat} (h : i < r.length) : xf (castR r) i = ((r.getD i 0 : Int) : Rat) := by
  unfold xf castR
  simp [List.getD, List.getElem?_map, List.getElem?_eq_getElem h]
theorem cast_in {r : List Int} (h : OkR bs r) : Within bs (castR r) := by
  intro i hi
  obtain ⟨h1, h2⟩ := h
  have g := h2 i hi
  rw [cast_get (by omega)]
  exact ⟨Rat.intCast_le_intCast.mpr g.1, Rat.intCast_le_intCast.mpr g.2⟩
theorem cast_fx (G : GoodB bs) {r : List Int} (h : OkR bs r) : FxL 42 419958 (castR r) := by
  intro x hx
  obtain ⟨i, hi, rfl⟩ := List.mem_map.mp hx
  obtain ⟨k, hk, rfl⟩ := List.getElem_of_mem hi
  obtain ⟨h1, h2⟩ := h
  have g := h2 k (by omega)
  have e : r.getD k 0 = r[k] := by simp [List.getD, List.getElem?_eq_getElem hk]
  rw [e] at g
  have kb : k < bs.length := by omega
  have e2 : bs.getD k (0, 0) = bs[k] := by simp [List.getD, List.getElem?_eq_getElem kb]
  rw [e2] at g
  have ok := G.all _ (List.getElem_mem kb)
  obtain ⟨o1, o2, o3⟩ := ok
  exact (Fx.int (N := 42) (by decide) r[k]).up (by omega)
def clampR (lo hi m : Rat) : Rat := if m < lo then lo else if hi < m then hi else m
noncomputable def strR (bs : List (Int × Int)) (l : List Rat) (p : Nat) : List Rat := l.set p (clampR (loR bs p) (hiR bs p) ((xf l (p - 1) + xf l (p + 1)) / 2))
theorem str_len (p : Nat) : (strR bs l p).length = l.length := by unfold strR; rw [List.length_set]
theorem xf_set {p i : Nat} {y : Rat} (h : p < l.length) : xf (l.set p y) i = if i = p then y else xf l i := by
  unfold xf
  simp only [List.getD, List.getElem?_set]
  by_cases c : p = i
  · subst c
    simp [h]
  · simp [c, Ne.symm c]
theorem set_self {p : Nat} (h : p < l.length) : l.set p (xf l p) = l := by
  apply List.ext_getElem?
  intro i
  rw [List.getElem?_set]
  split
  · rename_i e
    subst e
    unfold xf
    simp [List.getD, List.getElem?_eq_getElem h]
  · rfl
theorem clamp_in {lo hi m : Rat} (h : lo ≤ hi) : lo ≤ clampR lo hi m ∧ clampR lo hi m ≤ hi := by
  unfold clampR
  split
  · grind
  · split <;> grind
theorem str_in (G : GoodB bs) (hl : l.length = bs.length) (hw : Within bs l) {p : Nat} (hp : p < bs.length) : Within bs (strR bs l p) := by
  intro i hi
  unfold strR
  rw [xf_set (by omega)]
  by_cases c : i = p
  · rw [if_pos c, c]
    exact clamp_in (by have := hw p hp; grind)
  · rw [if_neg c]
    exact hw i hi
theorem sum_set (f : Rat → Rat) (y : Rat) : ∀ (l : List Rat) (p : Nat), p + 2 < l.length → ((stepsR (l.set (p + 1) y)).map f).sum + (f (xf l (p + 1) - xf l p) + f (xf l (p + 2) - xf l (p + 1))) = ((stepsR l).map f).sum + (f (y - xf l p) + f (xf l (p + 2) - y))
  | [], p, h => absurd h (Nat.not_lt_zero _)
  | [_], p, h => absurd h (by simp)
  | [_, _], p, h => absurd h (by simp)
  | a :: b :: c :: r, 0, _ => by
    show (f (y - a) + (f (c - y) + ((stepsR (c :: r)).map f).sum)) + (f (b - a) + f (c - b)) = (f (b - a) + (f (c - b) + ((stepsR (c :: r)).map f).sum)) + (f (y - a) + f (c - y))
    grind
  | a :: b :: c :: r, p + 1, h => by
    have ih := sum_set f y (b :: c :: r) p (by simp at h ⊢; omega)
    show (f (b - a) + ((stepsR ((b :: c :: r).set (p + 1) y)).map f).sum) + (f (xf (b :: c :: r) (p + 1) - xf (b :: c :: r) p) + f (xf (b :: c :: r) (p + 2) - xf (b :: c :: r) (p + 1))) = (f (b - a) + ((stepsR (b :: c :: r)).map f).sum) + (f (y - xf (b :: c :: r) p) + f (xf (b :: c :: r) (p + 2) - y))
    grind
theorem sq_lt {a b c y m : Rat} (hm : m = (a + c) / 2) (h : (y - m) * (y - m) < (b - m) * (b - m)) : (y - a) * (y - a) + (c - y) * (c - y) < (b - a) * (b - a) + (c - b) * (c - b) := by
  subst hm
  grind
theorem sq_small {u v : Rat} (h1 : -v ≤ u) (h2 : u < v) : u * u < v * v ∨ u = -v := by
  rcases Classical.em (u = -v) with c | c
  · exact .inr c
  · left
    have p1 : 0 < v - u := by grind
    have p2 : 0 < v + u := by grind
    have := Rat.mul_pos p1 p2
    grind
theorem str_tight (hl : l.length = bs.length) (hw : Within bs l) {p : Nat} (hp : p + 2 < bs.length) (h : LV.LevAt (loR bs) (hiR bs) (xf l) p) : strR bs l (p + 1) = l := by
  have hb := hw (p + 1) (by omega)
  unfold strR
  have e : clampR (loR bs (p + 1)) (hiR bs (p + 1)) ((xf l (p + 1 - 1) + xf l (p + 1 + 1)) / 2) = xf l (p + 1) := by
    rw [Nat.add_sub_cancel]
    obtain ⟨h1, h2⟩ := h
    unfold LV.st at h1 h2
    unfold clampR
    split
    · grind
    · split <;> grind
  rw [e]
  exact set_self (by omega)
theorem str_loose (hl : l.length = bs.length) (hw : Within bs l) {p : Nat} (hp : p + 2 < bs.length) (h : ¬ LV.LevAt (loR bs) (hiR bs) (xf l) p) : sqR (strR bs l (p + 1)) < sqR l := by
  have hb := hw (p + 1) (by omega)
  unfold strR
  rw [Nat.add_sub_cancel]
  have s := sum_set (fun x => x * x) (clampR (loR bs (p + 1)) (hiR bs (p + 1)) ((xf l p + xf l (p + 1 + 1)) / 2)) l p (by omega)
  generalize hy : clampR (loR bs (p + 1)) (hiR bs (p + 1)) ((xf l p + xf l (p + 1 + 1)) / 2) = y at *
  generalize hm : (xf l p + xf l (p + 1 + 1)) / 2 = m at *
  have key : (y - m) * (y - m) < (xf l (p + 1) - m) * (xf l (p + 1) - m) := by
    have h' : ¬ ((LV.st (xf l) (p + 1) < LV.st (xf l) p → xf l (p + 1) = loR bs (p + 1)) ∧ (LV.st (xf l) p < LV.st (xf l) (p + 1) → xf l (p + 1) = hiR bs (p + 1))) := h
    unfold LV.st at h'
    rcases Classical.em (m < xf l (p + 1)) with c | c
    · have y1 : m ≤ y ∧ y < xf l (p + 1) := by
        subst hy
        unfold clampR
        split
        · grind
        · split <;> grind
      have := Rat.mul_pos (show 0 < xf l (p + 1) - y by grind) (show 0 < (xf l (p + 1) - m) + (y - m) by grind)
      grind
    · have c2 : xf l (p + 1) < m := by grind
      have y1 : y ≤ m ∧ xf l (p + 1) < y := by
        subst hy
        unfold clampR
        split
        · grind
        · split <;> grind
      have := Rat.mul_pos (show 0 < y - xf l (p + 1) by grind) (show 0 < (m - xf l (p + 1)) + (m - y) by grind)
      grind
  have q := sq_lt (a := xf l p) (b := xf l (p + 1)) (c := xf l (p + 1 + 1)) hm.symm key
  unfold sqR
  have s2 : xf l (p + 2) = xf l (p + 1 + 1) := rfl
  rw [s2] at s
  grind
theorem str_cost (hl : l.length = bs.length) (hw : Within bs l) {p : Nat} (hp : p + 2 < bs.length) {ks : List (Int × Int)} (hk : ∀ k ∈ ks, Kin k) : costR ks (strR bs l (p + 1)) ≤ costR ks l := by
  have hb := hw (p + 1) (by omega)
  unfold strR costR
  rw [Nat.add_sub_cancel]
  have s := sum_set (priceR ks) (clampR (loR bs (p + 1)) (hiR bs (p + 1)) ((xf l p + xf l (p + 1 + 1)) / 2)) l p (by omega)
  have s2 : xf l (p + 2) = xf l (p + 1 + 1) := rfl
  rw [s2] at s
  generalize hy : clampR (loR bs (p + 1)) (hiR bs (p + 1)) ((xf l p + xf l (p + 1 + 1)) / 2) = y at *
  have key : priceR ks (y - xf l p) + priceR ks (xf l (p + 1 + 1) - y) ≤ priceR ks (xf l (p + 1) - xf l p) + priceR ks (xf l (p + 1 + 1) - xf l (p + 1)) := by
    generalize xf l p = a at *
    generalize xf l (p + 1 + 1) = c at *
    generalize xf l (p + 1) = b at *
    have y1 : (b ≤ (a + c) / 2 → b ≤ y ∧ y ≤ (a + c) / 2) ∧ ((a + c) / 2 ≤ b → (a + c) / 2 ≤ y ∧ y ≤ b) := by
      subst hy
      unfold clampR
      constructor
      · intro h
        split
        · grind
        · split <;> grind
      · intro h
        split
        · grind
        · split <;> grind
    have fin : ∀ t : Rat, 0 ≤ t → t ≤ 1 → y - a = (b - a) + t * ((c - b) - (b - a)) → priceR ks (y - a) + priceR ks (c - y) ≤ priceR ks (b - a) + priceR ks (c - b) := by
      intro t t0 t1 e
      have e2 : c - y = (c - b) + t * ((b - a) - (c - b)) := by grind
      have p1 := price_convex (b - a) (c - b) t t0 t1 ks hk
      have p2 := price_convex (c - b) (b - a) t t0 t1 ks hk
      rw [← e] at p1
      rw [← e2] at p2
      grind
    rcases Classical.em ((c - b) - (b - a) = 0) with z | z
    · exact fin 0 (by grind) (by grind) (by grind)
    · have dd : (y - b) / ((c - b) - (b - a)) * ((c - b) - (b - a)) = y - b := by
        rw [Rat.div_def, Rat.mul_assoc, Rat.inv_mul_cancel _ z, Rat.mul_one]
      rcases Classical.em (0 < (c - b) - (b - a)) with q | q
      · refine fin ((y - b) / ((c - b) - (b - a))) ?_ ?_ (by grind)
        · rw [LV.le_div q]; grind
        · rw [LV.div_le q]; grind
      · have e : (y - b) / ((c - b) - (b - a)) = (b - y) / ((b - a) - (c - b)) := by
          have z2 : (b - a) - (c - b) ≠ 0 := by grind
          have dd2 : (b - y) / ((b - a) - (c - b)) * ((b - a) - (c - b)) = b - y := by
            rw [Rat.div_def, Rat.mul_assoc, Rat.inv_mul_cancel _ z2, Rat.mul_one]
          have : ((y - b) / ((c - b) - (b - a)) - (b - y) / ((b - a) - (c - b))) * ((c - b) - (b - a)) = 0 := by grind
          rcases Rat.mul_eq_zero.mp this with h | h
          · grind
          · exact absurd h z
        have q2 : 0 < (b - a) - (c - b) := by grind
        refine fin ((y - b) / ((c - b) - (b - a))) ?_ ?_ (by grind)
        · rw [e, LV.le_div q2]; grind
        · rw [e, LV.div_le q2]; grind
  grind
theorem half_div (q : Rat) : Rat.divInt q.num (2 * (q.den : Int)) = q / 2 := by
  have h : (2 : Rat) = ((2 : Int) : Rat) := rfl
  rw [Rat.divInt_eq_div, Rat.intCast_mul]
  have e : q = (q.num : Rat) / ((q.den : Int) : Rat) := by
    rw [← Rat.divInt_eq_div]
    exact (Rat.num_divInt_den q).symm
  have zp : (0 : Rat) < ((q.den : Int) : Rat) := Rat.intCast_pos.mpr (by have := q.den_pos; omega)
  have z : ((q.den : Int) : Rat) ≠ 0 := by grind
  generalize hd : ((q.den : Int) : Rat) = d at *
  generalize hn : (q.num : Rat) = n at *
  rw [e, ← h]
  have e1 : n / (2 * d) * (2 * d) = n := by
    rw [Rat.div_def, Rat.mul_assoc, Rat.inv_mul_cancel _ (by
      intro w
      rcases Rat.mul_eq_zero.mp w with w | w
      · exact absurd w (by decide)
      · exact z w), Rat.mul_one]
  have e2 : n / d / 2 * (2 * d) = n := by
    have : n / d * d = n := by rw [Rat.div_def, Rat.mul_assoc, Rat.inv_mul_cancel _ z, Rat.mul_one]
    grind
  have : (n / (2 * d) - n / d / 2) * (2 * d) = 0 := by grind
  rcases Rat.mul_eq_zero.mp this with w | w
  · grind
  · rcases Rat.mul_eq_zero.mp w with w | w
    · exact absurd w (by decide)
    · exact absurd w z
theorem put_eq (l : List Rat) {P : Nat} (y : Rat) (h : P < l.length) : ((l.take P).map fr ++ [fr y]) ++ (l.drop (P + 1)).map fr = (l.set P y).map fr := by
  rw [List.set_eq_take_append_cons_drop, if_pos h]
  simp
theorem d_put {P : Nat} (y : Rat) (h : P < l.length) (h9 : l.length ≤ 1000) : (tb (tO (addD (.tup ((l.take P).map fr)) (.tup [fr y]))) fun a => tO (addD a (.tup ((l.drop (P + 1)).map fr)))) = tp (.tup ((l.set P y).map fr)) := by
  rw [d_add_tup (by simp; omega), p_tO, p_tb, d_add_tup (by simp; omega), p_tO, put_eq l y h]
theorem sm_half {a b : Rat} {k : Nat} (ha : Sm k a) (hb : Sm k b) : Sm (k + k + 3) ((a + b) / 2) := by
  have s := sm_mul (sm_add ha hb) (show Sm 2 (1 / 2 : Rat) from ⟨by decide +kernel, by decide +kernel⟩)
  have e : (a + b) * (1 / 2) = (a + b) / 2 := by grind
  rw [e] at s
  exact s
theorem ix_pm {P : Nat} (h1 : 1 ≤ P) (h2 : P + 1 < l.length) : ixD (.tup (l.map fr)) (.int ((P : Int) - 1)) = some (fr (xf l (P - 1))) ∧ ixD (.tup (l.map fr)) (.int ((P : Int) + 1)) = some (fr (xf l (P + 1))) := by
  constructor
  · rw [show (P : Int) - 1 = ((P - 1 : Nat) : Int) by omega]
    exact xf_ix (by omega)
  · exact xf_ix (i := P + 1) h2
theorem clamp_law {lo hi m : Rat} (h : lo ≤ hi) : (if lo < (if m < hi then m else hi) then (if m < hi then m else hi) else lo) = clampR lo hi m := by
  unfold clampR
  split <;> split <;> (try split) <;> grind
theorem str_fx (G : GoodB bs) {N : Nat} (h : FxL N (9999 * N) l) (h0 : 0 < N) {P : Nat} (h1 : 1 ≤ P) (h2 : P + 1 < bs.length) (hl : l.length = bs.length) : FxL (2 * N) (9999 * (2 * N)) (strR bs l P) := by
  have mem : ∀ i, i < l.length → xf l i ∈ l := fun i hi => by
    unfold xf
    rw [List.getD, List.getElem?_eq_getElem hi]
    exact List.getElem_mem _
  have big : ∀ i : Int, -9999 ≤ i → i ≤ 9999 → Fx (2 * N) (9999 * (2 * N)) (i : Rat) := fun i a b => (Fx.int (N := 2 * N) (by omega) i).up (by rw [Nat.mul_comm]; exact Nat.mul_le_mul_right _ (by omega))
  have pb : bs.getD P (0, 0) ∈ bs := by
    rw [List.getD, List.getElem?_eq_getElem (show P < bs.length by omega)]
    exact List.getElem_mem _
  obtain ⟨o1, o2, o3⟩ := G.all _ pb
  have o4 : loI bs P = (bs.getD P (0, 0)).1 := rfl
  have o5 : hiI bs P = (bs.getD P (0, 0)).2 := rfl
  intro x hx
  unfold strR at hx
  rcases List.mem_or_eq_of_mem_set hx with hx | hx
  · have := (h x hx).lift (c := 2) (by decide)
    rw [Nat.mul_left_comm] at this
    exact this
  · subst hx
    unfold clampR
    split
    · exact big _ o1 (by omega)
    · split
      · exact big _ (by omega) o3
      · have f := (h _ (mem (P - 1) (by omega))).add (h _ (mem (P + 1) (by omega)))
        have fh : Fx 2 1 (1 / 2 : Rat) := ⟨by decide, 1, by rw [Rat.div_def, Rat.divInt_eq_div]; rfl, by decide⟩
        have g := fh.mul f
        have e2 : 1 / 2 * (xf l (P - 1) + xf l (P + 1)) = (xf l (P - 1) + xf l (P + 1)) / 2 := by grind
        rw [e2] at g
        exact g.up (by omega)
theorem loose_ints : ∃ xs : List Int, looseR bs l = xs.map .int ∧ xs.length ≤ l.length ∧ ∀ p : Nat, p < l.length - 2 → (((p : Int) + 1) ∈ xs ↔ ¬ LV.LevAt (loR bs) (hiR bs) (xf l) p) := by
  refine ⟨(List.range (l.length - 2)).filterMap fun i => if bP (LV.LevAt (loR bs) (hiR bs) (xf l) i) = true then none else some ((i : Int) + 1), ?_, ?_, fun p hp => ?_⟩
  · unfold looseR
    rw [List.map_filterMap]
    congr 1
    funext i
    split <;> rfl
  · have := List.length_filterMap_le (fun i : Nat => if bP (LV.LevAt (loR bs) (hiR bs) (xf l) i) = true then none else some ((i : Int) + 1)) (List.range (l.length - 2))
    rw [List.length_range] at this
    omega
  · rw [List.mem_filterMap]
    constructor
    · rintro ⟨i, _, hi⟩
      split at hi
      · cases hi
      · rename_i c
        injection hi with hi
        have : i = p := by omega
        subst this
        exact fun z => c (bP_t z)
    · intro h
      exact ⟨p, List.mem_range.mpr hp, by rw [if_neg (by rw [bP_f h]; decide)]⟩
theorem fls_ints : ∀ xs : List Int, flsD (xs.map .int) = some (xs.map .int)
  | [] => rfl
  | x :: xs => by
    show (match flD (.int x), flsD (xs.map .int) with | some v, some vs => some (v :: vs) | _, _ => none) = _
    rw [fls_ints xs]
    rfl
theorem in_ints (neg : Bool) (k : Int) (xs : List Int) : inSD neg (.int k) (.tup (xs.map .int)) = some (.bl (if neg then !bP (k ∈ xs) else bP (k ∈ xs))) := by
  have e : inV (.int k) (xs.map .int) = bP (k ∈ xs) := by
    induction xs with
    | nil => rw [bP_f (by simp)]; rfl
    | cons x xs ih =>
      show (eqV (.int x) (.int k) || inV (.int k) (xs.map .int)) = _
      rw [ih]
      have e1 : eqV (.int x) (.int k) = (x == k) := rfl
      rw [e1]
      by_cases c : x = k
      · subst c
        rw [bP_t (List.mem_cons_self ..)]
        simp
      · rw [bP_congr (show k ∈ x :: xs ↔ k ∈ xs by simp [Ne.symm c])]
        simp [c]
  unfold inSD
  show (flsD (xs.map .int)).map _ = _
  rw [fls_ints]
  show some (D.bl (if neg then !inV (.int k) (xs.map .int) else inV (.int k) (xs.map .int))) = _
  rw [e]
theorem num_ints {xs : List Int} (h : xs.length ≤ 1000) : numB 10 (.tup (xs.map .int)) = true := by
  show (decide ((xs.map D.int).length ≤ 1000) && (xs.map D.int).all (numB 9)) = true
  rw [Bool.and_eq_true, decide_eq_true_eq, List.length_map]
  exact ⟨h, List.all_eq_true.mpr fun x hx => by
    obtain ⟨q, _, rfl⟩ := List.mem_map.mp hx
    rfl⟩
theorem notN_of {d : D} {b : Bool} (h : isNoneD d .non = some (.bl b)) : notNoneD d .non = some (.bl (!b)) := by
  cases d <;> first | (cases h; rfl) | cases h
theorem d_neRun (l m : List Rat) : neD (.tup (l.map fr)) (.tup (m.map fr)) = some (.bl (!bP (l = m))) := by
  have n : ∀ l : List Rat, niceB 60 (.tup (l.map fr)) = true := fun l => List.all_eq_true.mpr fun x hx => by
    obtain ⟨q, _, rfl⟩ := List.mem_map.mp hx
    rfl
  obtain ⟨b, e1, e2, e3⟩ := eq_nice (n l) (n m)
  have e := d_eqRun l m
  rw [e1] at e
  injection e with e
  injection e with e
  rw [e2, e]
theorem sm_cost {N M : Nat} {ks : List (Int × Int)} (h : FxL N M l) (h0 : 0 < N) (hN : N < 2 ^ 90) (hM : M < 2 ^ 90) (h9 : l.length ≤ 9) (hk : ∀ k ∈ ks, Kin k) (hl : ks.length ≤ 9) : Sm 240 (costR ks l) := by
  have hx : ∀ x ∈ (stepsR l).map (priceR ks), Fx N (9 * (9999 * (M + M + N * 10050))) x := fun x hx => by
    obtain ⟨s, h1, rfl⟩ := List.mem_map.mp hx
    exact fx_price (h.steps s h1) hk hl
  have f := Fx.sum h0 hx
  have e : ((stepsR l).map (priceR ks)).length ≤ 9 := by rw [List.length_map, steps_len]; omega
  have f2 := f.up (M' := 9 * (9 * (9999 * (M + M + N * 10050)))) (Nat.mul_le_mul_right _ e)
  exact f2.sm (by omega) (by omega)
structure PassOf (bs : List (Int × Int)) (l : List Rat) (N p : Nat) (m : List Rat) : Prop where
  len : m.length = bs.length
  wi : Within bs m
  fx : ∃ N', 0 < N' ∧ N' ≤ N * 2 ^ (bs.length - 1 - p) ∧ FxL N' (9999 * N') m
  le : sqR m ≤ sqR l
  eq : sqR m = sqR l → m = l ∧ ∀ i, p ≤ i + 1 → i + 2 < bs.length → LV.LevAt (loR bs) (hiR bs) (xf l) i
def knK (l : List Rat) (i : Nat) : Option Bool := if LV.st (xf l) i < LV.st (xf l) (i + 1) then some true else if LV.st (xf l) (i + 1) < LV.st (xf l) i then some false else none
def knotsR (l : List Rat) : List (Nat × Bool) := (List.range (l.length - 2)).filterMap fun i => (knK l i).map fun b => (i + 1, b)
def htK (bs : List (Int × Int)) (k : Nat × Bool) : Int := if k.2 then hiI bs k.1 else loI bs k.1
def ptsR (bs : List (Int × Int)) (l : List Rat) : List (Nat × Int) := (0, loI bs 0) :: ((knotsR l).map (fun k => (k.1, htK bs k)) ++ [(l.length - 1, loI bs (l.length - 1))])
theorem mem_knots {k : Nat × Bool} : k ∈ knotsR l ↔ ∃ i, i < l.length - 2 ∧ k.1 = i + 1 ∧ knK l i = some k.2 := by
  unfold knotsR
  rw [List.mem_filterMap]
  constructor
  · rintro ⟨i, hi, h⟩
    cases e : knK l i with
    | none => rw [e] at h; cases h
    | some b =>
      rw [e] at h
      cases h
      exact ⟨i, List.mem_range.mp hi, rfl, e⟩
  · rintro ⟨i, hi, h1, h2⟩
    exact ⟨i, List.mem_range.mpr hi, by rw [h2]; show some (i + 1, k.2) = some k; rw [← h1]⟩
theorem knots_pw : (knotsR l).Pairwise fun p q => p.1 < q.1 := by
  unfold knotsR
  refine List.Pairwise.filterMap _ ?_ (List.pairwise_lt_range)
  intro a b hab c hc d hd
  cases e : knK l a with
  | none => rw [e] at hc; cases hc
  | some x =>
    cases e2 : knK l b with
    | none => rw [e2] at hd; cases hd
    | some y =>
      rw [e] at hc; rw [e2] at hd
      cases hc; cases hd
      show a + 1 < b + 1
      omega
theorem pts_pw (h2 : 2 ≤ l.length) : (ptsR bs l).Pairwise fun p q => p.1 < q.1 := by
  unfold ptsR
  rw [List.pairwise_cons, List.pairwise_append]
  refine ⟨fun p hp => ?_, ?_, List.pairwise_singleton .., fun p hp q hq => ?_⟩
  · rcases List.mem_append.mp hp with hp | hp
    · obtain ⟨k, hk, rfl⟩ := List.mem_map.mp hp
      obtain ⟨i, _, e, _⟩ := mem_knots.mp hk
      show 0 < k.1
      omega
    · rw [List.mem_singleton.mp hp]
      show 0 < l.length - 1
      omega
  · rw [List.pairwise_map]
    exact knots_pw
  · obtain ⟨k, hk, rfl⟩ := List.mem_map.mp hp
    obtain ⟨i, _, e, _⟩ := mem_knots.mp hk
    rw [List.mem_singleton.mp hq]
    show k.1 < l.length - 1
    omega
theorem pts_ht (G : GoodB bs) (hl : l.length = bs.length) (hw : Within bs l) (hv : LevelP bs l) {p : Nat × Int} (hp : p ∈ ptsR bs l) : p.1 < bs.length ∧ xf l p.1 = (p.2 : Rat) := by
  have two := G.two
  have ends : ∀ i, i < bs.length → loR bs i = hiR bs i → xf l i = loR bs i := fun i hi e => by
    have := hw i hi
    grind
  unfold ptsR at hp
  rcases List.mem_cons.mp hp with rfl | hp
  · exact ⟨by show 0 < bs.length; omega, ends 0 (by omega) G.bd.e0⟩
  · rcases List.mem_append.mp hp with hp | hp
    · obtain ⟨k, hk, rfl⟩ := List.mem_map.mp hp
      obtain ⟨i, hi, e, hb⟩ := mem_knots.mp hk
      have lv := hv i (by omega)
      refine ⟨by show k.1 < bs.length; omega, ?_⟩
      show xf l k.1 = ((htK bs k : Int) : Rat)
      unfold htK
      unfold knK at hb
      rw [e]
      split at hb
      · rename_i c
        cases hb2 : k.2 with
        | true => simp only [if_true]; exact lv.2 c
        | false => rw [hb2] at hb; cases hb
      · split at hb
        · rename_i c
          cases hb2 : k.2 with
          | true => rw [hb2] at hb; cases hb
          | false => exact lv.1 c
        · cases hb
    · rw [List.mem_singleton.mp hp]
      rw [hl]
      exact ⟨by show bs.length - 1 < bs.length; omega, ends (bs.length - 1) (by omega) G.bd.e1⟩
theorem straight_at {x : Nat → Rat} {a b : Nat} (h : ∀ i, a ≤ i → i + 1 < b → LV.st x i = LV.st x (i + 1)) : ∀ k, a + k ≤ b → x (a + k) = x a + LV.st x a * (k : Rat) ∧ (a + k < b → LV.st x (a + k) = LV.st x a) := by
  intro k
  induction k with
  | zero => intro _; exact ⟨by simp; grind, fun _ => rfl⟩
  | succ k ih =>
    intro hk
    obtain ⟨i1, i2⟩ := ih (by omega)
    have i2 := i2 (by omega)
    constructor
    · have : x (a + (k + 1)) = x (a + k) + LV.st x (a + k) := by unfold LV.st; show x (a + k + 1) = _; grind
      rw [this, i2, i1, LV.cast_succ]
      grind
    · intro hb
      have := h (a + k) (by omega) (by omega)
      show LV.st x (a + k + 1) = _
      rw [← this, i2]
theorem between {x : Nat → Rat} {a b k : Nat} (h : ∀ i, a ≤ i → i + 1 < b → LV.st x i = LV.st x (i + 1)) (h1 : a ≤ k) (h2 : k ≤ b) : x k * ((b : Rat) - (a : Rat)) = x a * ((b : Rat) - (k : Rat)) + x b * ((k : Rat) - (a : Rat)) := by
  obtain ⟨j, rfl⟩ : ∃ j, k = a + j := ⟨k - a, by omega⟩
  obtain ⟨m, rfl⟩ : ∃ m, b = a + m := ⟨b - a, by omega⟩
  have e1 := (straight_at h j h2).1
  have e2 := (straight_at h m (Nat.le_refl _)).1
  rw [e1, e2, Rat.natCast_add, Rat.natCast_add]
  grind
theorem last_le {ps : List (Nat × Int)} (pw : ps.Pairwise fun p q => p.1 < q.1) {k : Nat} (h : ps.filter (fun p => decide (p.1 ≤ k)) ≠ []) : (ps.filter fun p => decide (p.1 ≤ k)).getLast h ∈ ps ∧ ((ps.filter fun p => decide (p.1 ≤ k)).getLast h).1 ≤ k ∧ ∀ p ∈ ps, p.1 ≤ k → p.1 ≤ ((ps.filter fun p => decide (p.1 ≤ k)).getLast h).1 := by
  have m := List.getLast_mem h
  have m2 := List.mem_filter.mp m
  refine ⟨m2.1, of_decide_eq_true m2.2, fun p hp hk => ?_⟩
  have mp : p ∈ ps.filter fun p => decide (p.1 ≤ k) := List.mem_filter.mpr ⟨hp, decide_eq_true hk⟩
  have pf := pw.filter fun p => decide (p.1 ≤ k)
  generalize ps.filter (fun p => decide (p.1 ≤ k)) = qs at *
  rw [← List.dropLast_concat_getLast h, List.pairwise_append] at pf
  rw [← List.dropLast_concat_getLast h] at mp
  rcases List.mem_append.mp mp with q | q
  · exact Nat.le_of_lt (pf.2.2 p q _ (List.mem_singleton.mpr rfl))
  · rw [List.mem_singleton.mp q]; exact Nat.le_refl _
theorem first_ge {ps : List (Nat × Int)} (pw : ps.Pairwise fun p q => p.1 < q.1) {k : Nat} {y : Nat × Int} {ys : List (Nat × Int)} (h : ps.filter (fun p => decide (k ≤ p.1)) = y :: ys) : y ∈ ps ∧ k ≤ y.1 ∧ ∀ p ∈ ps, k ≤ p.1 → y.1 ≤ p.1 := by
  have m : y ∈ ps.filter fun p => decide (k ≤ p.1) := by rw [h]; exact List.mem_cons_self ..
  have m2 := List.mem_filter.mp m
  refine ⟨m2.1, of_decide_eq_true m2.2, fun p hp hk => ?_⟩
  have mp : p ∈ ps.filter fun p => decide (k ≤ p.1) := List.mem_filter.mpr ⟨hp, decide_eq_true hk⟩
  have pf := pw.filter fun p => decide (k ≤ p.1)
  rw [h] at mp pf
  rcases List.mem_cons.mp mp with rfl | q
  · exact Nat.le_refl _
  · exact Nat.le_of_lt ((List.pairwise_cons.mp pf).1 p q)
def oneP (pts : List (Nat × Int)) (k : Nat) : Nat × Int := ((pts.filter fun p => decide (p.1 ≤ k)).getLast?).getD (0, 0)
def twoP (pts : List (Nat × Int)) (k : Nat) : Nat × Int := ((pts.filter fun p => decide (k ≤ p.1)).head?).getD (0, 0)
def thrV (pts : List (Nat × Int)) (k : Nat) : Rat := if (oneP pts k).1 = k then ((oneP pts k).2 : Rat) else Rat.divInt ((oneP pts k).2 * (((twoP pts k).1 : Int) - (k : Int)) + (twoP pts k).2 * ((k : Int) - ((oneP pts k).1 : Int))) (((twoP pts k).1 : Int) - ((oneP pts k).1 : Int))
def thrR (pts : List (Nat × Int)) (n : Nat) : List Rat := (List.range n).map (thrV pts)
structure PtsOk (pts : List (Nat × Int)) (n : Nat) : Prop where
  pw : pts.Pairwise fun p q => p.1 < q.1
  lt : ∀ p ∈ pts, p.1 < n
  ht : ∀ p ∈ pts, -9999 ≤ p.2 ∧ p.2 ≤ 9999
  first : ∃ h, (0, h) ∈ pts
  last : ∃ h, (n - 1, h) ∈ pts
theorem PtsOk.one {pts : List (Nat × Int)} {n k : Nat} (o : PtsOk pts n) : pts.filter (fun p => decide (p.1 ≤ k)) ≠ [] ∧ oneP pts k ∈ pts ∧ (oneP pts k).1 ≤ k ∧ ∀ p ∈ pts, p.1 ≤ k → p.1 ≤ (oneP pts k).1 := by
  obtain ⟨h, hm⟩ := o.first
  have ne : pts.filter (fun p => decide (p.1 ≤ k)) ≠ [] := List.ne_nil_of_mem (List.mem_filter.mpr ⟨hm, decide_eq_true (Nat.zero_le _)⟩)
  have e : oneP pts k = (pts.filter fun p => decide (p.1 ≤ k)).getLast ne := by
    unfold oneP
    rw [List.getLast?_eq_some_getLast ne]
    rfl
  rw [e]
  exact ⟨ne, last_le o.pw ne⟩
theorem PtsOk.two {pts : List (Nat × Int)} {n k : Nat} (o : PtsOk pts n) (hk : k < n) : ∃ ys, pts.filter (fun p => decide (k ≤ p.1)) = twoP pts k :: ys ∧ twoP pts k ∈ pts ∧ k ≤ (twoP pts k).1 ∧ ∀ p ∈ pts, k ≤ p.1 → (twoP pts k).1 ≤ p.1 := by
  obtain ⟨h, hm⟩ := o.last
  have mm : (n - 1, h) ∈ pts.filter fun p => decide (k ≤ p.1) := List.mem_filter.mpr ⟨hm, decide_eq_true (by show k ≤ n - 1; omega)⟩
  cases e : pts.filter (fun p => decide (k ≤ p.1)) with
  | nil => rw [e] at mm; cases mm
  | cons y ys =>
    have e2 : twoP pts k = y := by unfold twoP; rw [e]; rfl
    rw [e2]
    exact ⟨ys, rfl, first_ge o.pw e⟩
theorem PtsOk.gap {pts : List (Nat × Int)} {n k : Nat} (o : PtsOk pts n) (hk : k < n) (h : (oneP pts k).1 ≠ k) : (oneP pts k).1 < k ∧ k < (twoP pts k).1 ∧ ∀ p ∈ pts, p.1 ≤ (oneP pts k).1 ∨ (twoP pts k).1 ≤ p.1 := by
  obtain ⟨_, o1, o2, o3⟩ := o.one (k := k)
  obtain ⟨ys, _, t1, t2, t3⟩ := o.two hk
  refine ⟨by omega, ?_, fun p hp => ?_⟩
  · rcases Nat.lt_or_ge k (twoP pts k).1 with c | c
    · exact c
    · have := o3 _ t1 c
      omega
  · rcases Nat.lt_or_ge k p.1 with c | c
    · exact .inr (t3 p hp (by omega))
    · exact .inl (o3 p hp c)
theorem pts_ok (G : GoodB bs) (hl : l.length = bs.length) : PtsOk (ptsR bs l) bs.length := by
  have two := G.two
  have all : ∀ i, i < bs.length → -9999 ≤ loI bs i ∧ loI bs i ≤ 9999 ∧ -9999 ≤ hiI bs i ∧ hiI bs i ≤ 9999 := fun i hi => by
    have pb : bs.getD i (0, 0) ∈ bs := by
      rw [List.getD, List.getElem?_eq_getElem hi]
      exact List.getElem_mem _
    obtain ⟨a, b, c⟩ := G.all _ pb
    unfold loI hiI
    omega
  refine ⟨pts_pw (by omega), fun p hp => ?_, fun p hp => ?_, ⟨_, List.mem_cons_self ..⟩, ⟨loI bs (l.length - 1), ?_⟩⟩
  · unfold ptsR at hp
    rcases List.mem_cons.mp hp with rfl | hp
    · show 0 < bs.length; omega
    · rcases List.mem_append.mp hp with hp | hp
      · obtain ⟨k, hk, rfl⟩ := List.mem_map.mp hp
        obtain ⟨i, hi, e, hb⟩ := mem_knots.mp hk
        show k.1 < bs.length
        omega
      · rw [List.mem_singleton.mp hp]
        show l.length - 1 < bs.length
        omega
  · unfold ptsR at hp
    rcases List.mem_cons.mp hp with rfl | hp
    · have := all 0 (by omega)
      exact ⟨this.1, this.2.1⟩
    · rcases List.mem_append.mp hp with hp | hp
      · obtain ⟨k, hk, rfl⟩ := List.mem_map.mp hp
        obtain ⟨i, hi, e, hb⟩ := mem_knots.mp hk
        have := all k.1 (by omega)
        show -9999 ≤ htK bs k ∧ htK bs k ≤ 9999
        unfold htK
        split <;> omega
      · rw [List.mem_singleton.mp hp]
        have := all (l.length - 1) (by omega)
        exact ⟨this.1, this.2.1⟩
  · rw [← hl]
    exact List.mem_cons_of_mem _ (List.mem_append_right _ (List.mem_singleton.mpr rfl))
theorem thr_between {x : Nat → Rat} {a b k : Nat} {p q : Int} (h : ∀ i, a ≤ i → i + 1 < b → LV.st x i = LV.st x (i + 1)) (h1 : a < k) (h2 : k < b) (ha : x a = (p : Rat)) (hb : x b = (q : Rat)) : x k = Rat.divInt (p * ((b : Int) - (k : Int)) + q * ((k : Int) - (a : Int))) ((b : Int) - (a : Int)) := by
  have e := between h (Nat.le_of_lt h1) (Nat.le_of_lt h2)
  rw [ha, hb] at e
  have pos : (0 : Rat) < (b : Rat) - (a : Rat) := LV.cast_pos (by omega)
  rw [Rat.divInt_eq_div, Rat.intCast_add, Rat.intCast_mul, Rat.intCast_mul, Rat.intCast_sub, Rat.intCast_sub, Rat.intCast_sub, Rat.intCast_natCast, Rat.intCast_natCast, Rat.intCast_natCast, ← e]
  have z : (b : Rat) - (a : Rat) ≠ 0 := by grind
  rw [Rat.div_def, Rat.mul_assoc, Rat.mul_inv_cancel _ z, Rat.mul_one]
theorem through (G : GoodB bs) (hl : l.length = bs.length) (hw : Within bs l) (hv : LevelP bs l) : thrR (ptsR bs l) bs.length = l := by
  have o := pts_ok (l := l) G hl
  apply List.ext_getElem
  · unfold thrR; simp [hl]
  · intro k h1 h2
    have hk : k < bs.length := by omega
    have e : xf l k = l[k] := by unfold xf; simp [List.getD, List.getElem?_eq_getElem h2]
    rw [← e]
    have e3 : (thrR (ptsR bs l) bs.length)[k] = thrV (ptsR bs l) k := by simp [thrR]
    rw [e3]
    obtain ⟨_, o1, o2, o3⟩ := o.one (k := k)
    obtain ⟨ys, _, t1, t2, t3⟩ := o.two hk
    have f1 := pts_ht G hl hw hv o1
    have f2 := pts_ht G hl hw hv t1
    unfold thrV
    by_cases c : (oneP (ptsR bs l) k).1 = k
    · rw [if_pos c, ← f1.2, c]
    · rw [if_neg c]
      obtain ⟨g1, g2, g3⟩ := o.gap hk c
      refine (thr_between (x := xf l) (fun i i1 i2 => ?_) g1 g2 f1.2 f2.2).symm
      have hn : knK l i = none := by
        cases kb : knK l i with
        | none => rfl
        | some b =>
          have m : (i + 1, htK bs (i + 1, b)) ∈ ptsR bs l := List.mem_cons_of_mem _ (List.mem_append_left _ (List.mem_map.mpr ⟨(i + 1, b), mem_knots.mpr ⟨i, by omega, rfl, kb⟩, rfl⟩))
          have := g3 _ m
          simp only at this
          omega
      unfold knK at hn
      split at hn
      · cases hn
      · split at hn
        · cases hn
        · grind
theorem n_us : neD (.str "up") (.str "straight") = some (.bl true) := by unfold neD; rw [show eqB (.str "up") (.str "straight") = some false by decide +kernel]; rfl
theorem n_ds : neD (.str "down") (.str "straight") = some (.bl true) := by unfold neD; rw [show eqB (.str "down") (.str "straight") = some false by decide +kernel]; rfl
theorem n_ss : neD (.str "straight") (.str "straight") = some (.bl false) := by unfold neD; rw [show eqB (.str "straight") (.str "straight") = some true by decide +kernel]; rfl
def hlD (b : Bool) : D := if b then .str "high" else .str "low"
def knD (k : Nat × Bool) : D := .tup [.int (k.1 : Int), hlD k.2]
theorem word_kn (i : Nat) : wordR (LV.st (xf l) i) (LV.st (xf l) (i + 1)) = (match knK l i with | none => .str "straight" | some true => .str "up" | some false => .str "down") := by
  unfold wordR knK
  by_cases c1 : LV.st (xf l) i < LV.st (xf l) (i + 1)
  · rw [if_pos c1, if_pos c1]
  · rw [if_neg c1, if_neg c1]
    by_cases c2 : LV.st (xf l) (i + 1) < LV.st (xf l) i
    · rw [if_pos c2, if_pos c2]
    · rw [if_neg c2, if_neg c2]
theorem words_get {i : Nat} (hi : i < l.length - 2) : (wordsR l)[i]? = some (wordR (LV.st (xf l) i) (LV.st (xf l) (i + 1))) := by
  unfold wordsR
  simp [List.getElem?_map, List.getElem?_range hi]
theorem knots_map : (knotsR l).map knD = (List.range (l.length - 2)).filterMap fun i => (knK l i).map fun b => D.tup [.int ((i : Int) + 1), hlD b] := by
  unfold knotsR
  rw [List.map_filterMap]
  congr 1
  funext i
  cases knK l i <;> rfl
theorem range_one {β : Type} {m j : Nat} {g : Nat → Option β} (hj : j < m) (h : ∀ i, i < m → i ≠ j → g i = none) : (List.range m).filterMap g = (g j).toList := by
  induction m with
  | zero => omega
  | succ m ih =>
    rw [List.range_succ, List.filterMap_append]
    by_cases c : j = m
    · subst c
      have : (List.range j).filterMap g = [] := by
        rw [List.filterMap_eq_nil_iff]
        intro i hi
        have := List.mem_range.mp hi
        exact h i (by omega) (by omega)
      rw [this]
      cases e : g j <;> simp [e]
    · rw [ih (by omega) fun i hi => h i (by omega)]
      have := h m (by omega) (Ne.symm c)
      simp [this]
theorem knots_at {k : Nat} (h1 : 1 ≤ k) (h2 : k - 1 < l.length - 2) : (knotsR l).filterMap (fun p => if p.1 = k then some (hlD p.2) else none) = ((knK l (k - 1)).map hlD).toList := by
  unfold knotsR
  rw [List.filterMap_filterMap]
  rw [range_one (j := k - 1) h2 fun i hi hne => by
    cases knK l i with
    | none => rfl
    | some b => simp; omega]
  cases knK l (k - 1) with
  | none => rfl
  | some b =>
    have : k - 1 + 1 = k := by omega
    simp [this]
def wpair (bs : List (Int × Int)) (l : List Rat) (k : Nat) : Int × Int := match knK l (k - 1) with
  | none => (-9999, 9999)
  | some false => (loI bs k, 9999)
  | some true => (-9999, hiI bs k)
structure WideTo (bs : List (Int × Int)) (l : List Rat) (m : Nat) (wb : List (Int × Int)) : Prop where
  len : wb.length = bs.length
  good : GoodB wb
  at' : ∀ i, i < bs.length → wb.getD i (0, 0) = if 1 ≤ i ∧ i < m then wpair bs l i else bs.getD i (0, 0)
theorem wide_step (G : GoodB bs) {m : Nat} {wb : List (Int × Int)} (w : WideTo bs l m wb) (h1 : 1 ≤ m) (h2 : m + 1 < bs.length) : WideTo bs l (m + 1) (wb.set m (wpair bs l m)) := by
  have ok : PairOk (wpair bs l m) := by
    have pb : bs.getD m (0, 0) ∈ bs := by
      rw [List.getD, List.getElem?_eq_getElem (show m < bs.length by omega)]
      exact List.getElem_mem _
    obtain ⟨a, b, c⟩ := G.all _ pb
    unfold wpair loI hiI
    cases knK l (m - 1) with
    | none => unfold PairOk; simp only; omega
    | some x => cases x <;> (unfold PairOk; simp only; omega)
  have wl := w.len
  have get : ∀ i, (wb.set m (wpair bs l m)).getD i (0, 0) = if i = m then wpair bs l m else wb.getD i (0, 0) := fun i => by
    simp only [List.getD, List.getElem?_set]
    by_cases c : m = i
    · subst c
      simp [show m < wb.length by omega]
    · simp [c, Ne.symm c]
  refine ⟨by rw [List.length_set, wl], ⟨by rw [List.length_set]; exact w.good.two, by rw [List.length_set]; exact w.good.nine, fun p hp => ?_, ?_, ?_⟩, fun i hi => ?_⟩
  · rcases List.mem_or_eq_of_mem_set hp with hp | rfl
    · exact w.good.all p hp
    · exact ok
  · rw [get, if_neg (by omega)]
    exact w.good.e0
  · rw [List.length_set, get, if_neg (by omega)]
    exact w.good.e1
  · rw [get]
    by_cases c : i = m
    · subst c
      rw [if_pos rfl, if_pos ⟨h1, by omega⟩]
    · rw [if_neg c, w.at' i hi]
      by_cases d : 1 ≤ i ∧ i < m
      · rw [if_pos d, if_pos ⟨d.1, by omega⟩]
      · rw [if_neg d, if_neg (by omega)]
theorem wide_level (G : GoodB bs) {l0 : List Rat} (L : LevelOf bs l0) {wb : List (Int × Int)} (w : WideTo bs l0 (bs.length - 1) wb) : Within wb l0 ∧ LevelP wb l0 := by
  have wl := w.len
  have rng : ∀ i, i < bs.length → (-9999 : Rat) ≤ xf l0 i ∧ xf l0 i ≤ 9999 := fun i hi => by
    have a := L.wi i hi
    have b := lohi9 G hi
    grind
  have lo' : ∀ i, loR wb i = ((wb.getD i (0, 0)).1 : Rat) := fun i => rfl
  have hi' : ∀ i, hiR wb i = ((wb.getD i (0, 0)).2 : Rat) := fun i => rfl
  have neg : (((-9999 : Int)) : Rat) = -9999 := rfl
  have posi : (((9999 : Int)) : Rat) = 9999 := rfl
  constructor
  · intro i hi
    have a := L.wi i (by omega)
    have r := rng i (by omega)
    rw [lo', hi', w.at' i (by omega)]
    by_cases c : 1 ≤ i ∧ i < bs.length - 1
    · rw [if_pos c]
      unfold wpair
      have a1 : loR bs i = ((loI bs i : Int) : Rat) := rfl
      have a2 : hiR bs i = ((hiI bs i : Int) : Rat) := rfl
      cases knK l0 (i - 1) with
      | none => simp only [neg, posi]; exact r
      | some x =>
        cases x
        · simp only [posi]; exact ⟨by rw [← a1]; exact a.1, r.2⟩
        · simp only [neg]; exact ⟨r.1, by rw [← a2]; exact a.2⟩
    · rw [if_neg c]
      exact a
  · intro i hi
    have a := L.lev i (by omega)
    have e := w.at' (i + 1) (by omega)
    rw [if_pos ⟨by omega, by omega⟩] at e
    have e2 : i + 1 - 1 = i := rfl
    constructor
    · intro h
      rw [lo', e]
      have k : knK l0 i = some false := by
        unfold knK
        rw [if_neg (by grind), if_pos h]
      unfold wpair
      rw [e2, k]
      exact a.1 h
    · intro h
      rw [hi', e]
      have k : knK l0 i = some true := by
        unfold knK
        rw [if_pos h]
      unfold wpair
      rw [e2, k]
      exact a.2 h
theorem fm_filter {α : Type} (q : α → Bool) (f : α → D) : ∀ xs : List α, (xs.filterMap fun x => if q x = true then some (f x) else none) = (xs.filter q).map f
  | [] => rfl
  | x :: xs => by
    rw [List.filterMap_cons, List.filter_cons]
    cases q x <;> simp [fm_filter q f xs]
theorem forL_push (f : Nat → D) {body : D → List D → TM (List D)} {n : Nat} (hb : ∀ i acc, i < n → acc.length ≤ i → body (.int (i : Int)) acc = tp (acc ++ [f i])) : forL body ((List.range n).map fun i : Nat => .int (i : Int)) [] = tp ((List.range n).map f) := by
  have loop : ∀ k p acc, p + k = n → acc.length = p → forL body ((List.range' p k).map fun i : Nat => .int (i : Int)) acc = tp (acc ++ (List.range' p k).map f) := by
    intro k
    induction k with
    | zero => intro p acc _ _; simp [forL]
    | succ k ih =>
      intro p acc hp ha
      rw [List.range'_succ, List.map_cons, List.map_cons]
      show tb (body (.int (p : Int)) acc) _ = _
      rw [hb p acc (by omega) (by omega), p_tb, ih (p + 1) _ (by omega) (by simp [ha])]
      simp
  have := loop n 0 [] (by omega) rfl
  rw [← List.range_eq_range'] at this
  rw [this]
  rfl
def ptD (p : Nat × Int) : D := .tup [.int (p.1 : Int), .int p.2]
theorem d_putG {α : Type} {f : α → D} {xs : List α} {P : Nat} (y : α) (h : P < xs.length) (h9 : xs.length ≤ 1000) : (tb (tO (addD (.tup ((xs.take P).map f)) (.tup [f y]))) fun a => tO (addD a (.tup ((xs.drop (P + 1)).map f)))) = tp (.tup ((xs.set P y).map f)) := by
  rw [d_add_tup (by simp; omega), p_tO, p_tb, d_add_tup (by simp; omega), p_tO, List.set_eq_take_append_cons_drop, if_pos h]
  simp
theorem ixK_up : ixK (.dct [(.inr "down", .str "low"), (.inr "up", .str "high")]) (.str "up") = some (.str "high") := by
  show valD _ (.inr "up") = _
  unfold valD
  rw [List.find?_cons_of_neg (by decide), List.find?_cons_of_pos (by decide)]
  rfl
theorem ixK_down : ixK (.dct [(.inr "down", .str "low"), (.inr "up", .str "high")]) (.str "down") = some (.str "low") := by
  show valD _ (.inr "down") = _
  unfold valD
  rw [List.find?_cons_of_pos (by decide)]
  rfl
def numS : Nat → D → Bool
  | 0, _ => false
  | n + 1, d => match d with
    | .non => true
    | .int _ => true
    | .str x => niceB 60 (.str x)
    | .tup ds => decide (ds.length ≤ 1000) && ds.all (numS n)
    | .lst ds => decide (ds.length ≤ 1000) && ds.all (numS n)
    | _ => false
theorem eq_str {x : Str} (h : niceB 60 (.str x) = true) : eqD (.str x) (.str x) = some (.bl true) := by rw [d_eqP h h, bP_t rfl]
theorem is_str (x : Str) : isB [.str x, .opq (.ty "tuple")] = some (.bl false) ∧ isB [.str x, .opq (.ty "list")] = some (.bl false) ∧ isB [.str x, .opq (.ty "bool")] = some (.bl false) ∧ isB [.str x, .opq (.ty "int")] = some (.bl false) ∧ isB [.str x, .opq (.ty "str")] = some (.bl true) := ⟨rfl, rfl, rfl, rfl, rfl⟩
theorem nice_low : niceB 60 (.str "low") = true := by decide +kernel
theorem nice_high : niceB 60 (.str "high") = true := by decide +kernel
theorem knots_len : (knotsR l).length ≤ l.length - 2 := by
  unfold knotsR
  have := List.length_filterMap_le (fun i => (knK l i).map fun b => (i + 1, b)) (List.range (l.length - 2))
  rw [List.length_range] at this
  exact this
theorem num_kn (n : Nat) {ks : List (Nat × Bool)} (h : ks.length ≤ 1000) : numS (n + 3) (.tup (ks.map knD)) = true := by
  show (decide ((ks.map knD).length ≤ 1000) && (ks.map knD).all (numS (n + 2))) = true
  rw [Bool.and_eq_true, decide_eq_true_eq, List.length_map]
  exact ⟨h, List.all_eq_true.mpr fun x hx => by
    obtain ⟨⟨i, b⟩, _, rfl⟩ := List.mem_map.mp hx
    have a : numS (n + 1) (.int (i : Int)) = true := rfl
    have c : numS (n + 1) (hlD b) = true := by cases b; exact nice_low; exact nice_high
    show (decide (2 ≤ 1000) && (numS (n + 1) (.int (i : Int)) && (numS (n + 1) (hlD b) && true))) = true
    rw [a, c]
    rfl⟩
theorem num_runS (n : Nat) {l : List Rat} (h : l.length ≤ 1000) : numS (n + 3) (.tup (l.map fr)) = true := by
  show (decide ((l.map fr).length ≤ 1000) && (l.map fr).all (numS (n + 2))) = true
  rw [Bool.and_eq_true, decide_eq_true_eq, List.length_map]
  exact ⟨h, List.all_eq_true.mpr fun x hx => by
    obtain ⟨q, _, rfl⟩ := List.mem_map.mp hx
    rfl⟩
theorem eq_ll : eqD (.str "low") (.str "low") = some (.bl true) := by unfold eqD; rw [show eqB (.str "low") (.str "low") = some true by decide +kernel]; rfl
theorem eq_hl : eqD (.str "high") (.str "low") = some (.bl false) := by unfold eqD; rw [show eqB (.str "high") (.str "low") = some false by decide +kernel]; rfl
theorem d_neRun' (l m : List Rat) : neD (.tup (l.map fr)) (.tup (m.map fr)) = some (.bl (!bP (l = m))) := by
  have n : ∀ l : List Rat, niceB 60 (.tup (l.map fr)) = true := fun l => List.all_eq_true.mpr fun x hx => by
    obtain ⟨q, _, rfl⟩ := List.mem_map.mp hx
    rfl
  obtain ⟨b, e1, e2, e3⟩ := eq_nice (n l) (n m)
  have e := d_eqRun l m
  rw [e1] at e
  injection e with e
  injection e with e
  rw [e2, e]
theorem due_loop {body : D → D → TM D} {k : D → TM D} {P : D → Prop} {E : XP} {n : Nat} (hn : n = l.length - 2) (n9 : n ≤ 1000)
    (hb : ∀ i (acc : List D), i < n → acc.length ≤ i → body (.int (i : Int)) (.lst acc) = tp (.lst (acc ++ ((knK l i).map fun b => D.tup [.int ((i : Int) + 1), hlD b]).toList)))
    (hk : k (.lst ((knotsR l).map knD)) P E) : tb (forL body ((List.range n).map fun i : Nat => .int (i : Int)) (.lst [])) k P E := by
  have loop : ∀ k p (acc : List D), p + k = n → acc.length ≤ p → forL body ((List.range' p k).map fun i : Nat => .int (i : Int)) (.lst acc) = tp (.lst (acc ++ (List.range' p k).filterMap fun i => (knK l i).map fun b => D.tup [.int ((i : Int) + 1), hlD b])) := by
    intro k
    induction k with
    | zero => intro p acc _ _; simp [forL]
    | succ k ih =>
      intro p acc hp ha
      rw [List.range'_succ, List.map_cons]
      show tb (body (.int (p : Int)) (.lst acc)) _ = _
      rw [hb p acc (by omega) (by omega), p_tb]
      rw [List.filterMap_cons]
      cases knK l p with
      | none => simpa using ih (p + 1) acc (by omega) (by omega)
      | some b => simpa using ih (p + 1) (acc ++ [D.tup [.int ((p : Int) + 1), hlD b]]) (by omega) (by simp; omega)
  have := loop n 0 [] (by omega) (Nat.le_refl 0)
  rw [← List.range_eq_range', hn, List.nil_append, ← knots_map] at this
  rw [hn, this, p_tb]
  exact hk
theorem line_ok {n : Nat} (h2 : 2 ≤ n) {a b : Int} (ha : -9999 ≤ a ∧ a ≤ 9999) (hb : -9999 ≤ b ∧ b ≤ 9999) : PtsOk [(0, a), (n - 1, b)] n := by
  refine ⟨?_, fun p hp => ?_, fun p hp => ?_, ⟨a, List.mem_cons_self ..⟩, ⟨b, List.mem_cons_of_mem _ (List.mem_cons_self ..)⟩⟩
  · rw [List.pairwise_cons]
    exact ⟨fun p hp => by rw [List.mem_singleton.mp hp]; show 0 < n - 1; omega, List.pairwise_singleton ..⟩
  · simp only [List.mem_cons, List.not_mem_nil, or_false] at hp
    rcases hp with rfl | rfl
    · show 0 < n; omega
    · show n - 1 < n; omega
  · simp only [List.mem_cons, List.not_mem_nil, or_false] at hp
    rcases hp with rfl | rfl
    · exact ha
    · exact hb
theorem line_at {n : Nat} (h2 : 2 ≤ n) {a b : Int} (ha : -9999 ≤ a ∧ a ≤ 9999) (hb : -9999 ≤ b ∧ b ≤ 9999) {k : Nat} (hk : k < n) : xf (thrR [(0, a), (n - 1, b)] n) k = (a : Rat) + ((b : Rat) - (a : Rat)) / (((n - 1 : Nat) : Rat) - ((0 : Nat) : Rat)) * (k : Rat) := by
  have o := line_ok h2 ha hb
  have e3 : xf (thrR [(0, a), (n - 1, b)] n) k = thrV [(0, a), (n - 1, b)] k := by
    unfold xf thrR
    simp [List.getD, List.getElem?_map, List.getElem?_range hk]
  rw [e3]
  have pos : (0 : Rat) < ((n - 1 : Nat) : Rat) - ((0 : Nat) : Rat) := LV.cast_pos (by omega)
  obtain ⟨_, o1, o2, o3⟩ := o.one (k := k)
  obtain ⟨ys, _, t1, t2, t3⟩ := o.two hk
  have gap := fun h => o.gap hk h
  have sd : ((b : Rat) - (a : Rat)) / (((n - 1 : Nat) : Rat) - ((0 : Nat) : Rat)) * (((n - 1 : Nat) : Rat) - ((0 : Nat) : Rat)) = (b : Rat) - (a : Rat) := by
    rw [Rat.div_def, Rat.mul_assoc, Rat.inv_mul_cancel _ (by grind), Rat.mul_one]
  have z0 : ((0 : Nat) : Rat) = 0 := rfl
  unfold thrV
  generalize oneP [(0, a), (n - 1, b)] k = A at *
  generalize twoP [(0, a), (n - 1, b)] k = B at *
  generalize ((b : Rat) - (a : Rat)) / (((n - 1 : Nat) : Rat) - ((0 : Nat) : Rat)) = s at *
  simp only [List.mem_cons, List.not_mem_nil, or_false] at o1 t1
  by_cases c : A.1 = k
  · rw [if_pos c]
    rcases o1 with rfl | rfl
    · simp only at c
      subst c
      show (a : Rat) = _
      grind
    · simp only at c
      subst c
      show (b : Rat) = _
      grind
  · rw [if_neg c]
    obtain ⟨g1, g2, _⟩ := gap c
    have eA : A = (0, a) := by
      rcases o1 with rfl | rfl
      · rfl
      · rcases t1 with rfl | rfl
        · simp only at g1 g2; omega
        · simp only at g1 g2; omega
    have eB : B = (n - 1, b) := by
      rcases t1 with rfl | rfl
      · simp only at g2; omega
      · rfl
    subst eA eB
    have st : ∀ i : Nat, LV.st (fun j : Nat => (a : Rat) + s * (j : Rat)) i = s := fun i => by
      show (a : Rat) + s * ((i + 1 : Nat) : Rat) - ((a : Rat) + s * (i : Rat)) = s
      rw [LV.cast_succ]
      grind
    exact (thr_between (x := fun j : Nat => (a : Rat) + s * (j : Rat)) (a := 0) (b := n - 1) (k := k) (p := a) (q := b) (fun i _ _ => by rw [st, st]) g1 g2 (by show (a : Rat) + s * ((0 : Nat) : Rat) = _; grind) (by show (a : Rat) + s * ((n - 1 : Nat) : Rat) = _; grind)).symm
theorem line_st {n : Nat} (h2 : 2 ≤ n) {a b : Int} (ha : -9999 ≤ a ∧ a ≤ 9999) (hb : -9999 ≤ b ∧ b ≤ 9999) {i : Nat} (hi : i + 1 < n) : LV.st (xf (thrR [(0, a), (n - 1, b)] n)) i = ((b : Rat) - (a : Rat)) / (((n - 1 : Nat) : Rat) - ((0 : Nat) : Rat)) := by
  unfold LV.st
  rw [line_at h2 ha hb hi, line_at h2 ha hb (by omega), LV.cast_succ]
  grind
theorem line_sm {n : Nat} (h2 : 2 ≤ n) (n9 : n ≤ 9) {a b : Int} (ha : -9999 ≤ a ∧ a ≤ 9999) (hb : -9999 ≤ b ∧ b ≤ 9999) : Smn 100 (thrR [(0, a), (n - 1, b)] n) := by
  intro x hx
  obtain ⟨k, hk, rfl⟩ := List.mem_map.mp hx
  have hk := List.mem_range.mp hk
  have e3 : xf (thrR [(0, a), (n - 1, b)] n) k = thrV [(0, a), (n - 1, b)] k := by
    unfold xf thrR
    simp [List.getD, List.getElem?_map, List.getElem?_range hk]
  rw [← e3, line_at h2 ha hb hk]
  have s1 := sm_slope20 (a := 0) (p := n - 1) (by omega) (by omega) ha hb
  have s2 : Sm 20 ((k : Int) : Rat) := sm9 (by omega) (by omega)
  have s3 : Sm 20 (a : Rat) := sm9 (by omega) (by omega)
  have := sm_add s3 (sm_mul s1 s2)
  exact this.mono (by decide)
theorem line_iff (G : GoodB bs) {l0 : List Rat} (L : LevelOf bs l0) : Within bs (thrR [(0, loI bs 0), (bs.length - 1, loI bs (bs.length - 1))] bs.length) ↔ knotsR l0 = [] := by
  have two := G.two
  have hh : ∀ i, i < bs.length → -9999 ≤ loI bs i ∧ loI bs i ≤ 9999 := fun i hi => by
    have pb : bs.getD i (0, 0) ∈ bs := by
      rw [List.getD, List.getElem?_eq_getElem hi]
      exact List.getElem_mem _
    obtain ⟨a, b, c⟩ := G.all _ pb
    unfold loI
    omega
  have hs := fun {i : Nat} (hi : i + 1 < bs.length) => line_st two (hh 0 (by omega)) (hh (bs.length - 1) (by omega)) hi
  have len : (thrR [(0, loI bs 0), (bs.length - 1, loI bs (bs.length - 1))] bs.length).length = bs.length := by unfold thrR; simp
  constructor
  · intro h
    have lev : LevelP bs (thrR [(0, loI bs 0), (bs.length - 1, loI bs (bs.length - 1))] bs.length) := fun i hi => by
      have e1 := hs (i := i) (by omega)
      have e2 := hs (i := i + 1) (by omega)
      exact ⟨fun z => by rw [e1, e2] at z; grind, fun z => by rw [e1, e2] at z; grind⟩
    have e := (level_iff G L len).mp ⟨h, lev⟩
    rw [← e]
    unfold knotsR
    rw [List.filterMap_eq_nil_iff]
    intro i hi
    have hi := List.mem_range.mp hi
    rw [len] at hi
    have e1 := hs (i := i) (by omega)
    have e2 := hs (i := i + 1) (by omega)
    have : knK (thrR [(0, loI bs 0), (bs.length - 1, loI bs (bs.length - 1))] bs.length) i = none := by
      unfold knK
      rw [e1, e2, if_neg (by grind), if_neg (by grind)]
    rw [this]
    rfl
  · intro h
    have e := through G L.len L.wi L.lev
    unfold ptsR at e
    rw [h, L.len] at e
    have e2 : thrR [(0, loI bs 0), (bs.length - 1, loI bs (bs.length - 1))] bs.length = l0 := e
    rw [e2]
    exact L.wi
theorem wpair_ok (G : GoodB bs) {m : Nat} (hm : m < bs.length) : PairOk (wpair bs l m) := by
  have pb : bs.getD m (0, 0) ∈ bs := by
    rw [List.getD, List.getElem?_eq_getElem hm]
    exact List.getElem_mem _
  obtain ⟨a, b, c⟩ := G.all _ pb
  unfold wpair loI hiI
  cases knK l (m - 1) with
  | none => unfold PairOk; simp only; omega
  | some x => cases x <;> (unfold PairOk; simp only; omega)
theorem nl_low : niceB 60 (.lst [.str "low"]) = true := by decide +kernel
theorem nl_high : niceB 60 (.lst [.str "high"]) = true := by decide +kernel
theorem eqL0 : eqD (.lst []) (.lst []) = some (.bl true) := by rw [d_eqP rfl rfl, bP_t rfl]
theorem eqL1 : eqD (.lst [.str "low"]) (.lst []) = some (.bl false) := by rw [d_eqP nl_low rfl, bP_f (fun h => by cases h)]
theorem eqL2 : eqD (.lst [.str "low"]) (.lst [.str "low"]) = some (.bl true) := by rw [d_eqP nl_low nl_low, bP_t rfl]
theorem eqL3 : eqD (.lst [.str "high"]) (.lst []) = some (.bl false) := by rw [d_eqP nl_high rfl, bP_f (fun h => by cases h)]
theorem eqL4 : eqD (.lst [.str "high"]) (.lst [.str "low"]) = some (.bl false) := by
  unfold eqD
  rw [show eqB (.lst [.str "high"]) (.lst [.str "low"]) = some false by decide +kernel]
  rfl
theorem wide_loop (G : GoodB bs) {l0 : List Rat} {body : D → D → TM D} {k : D → TM D} {P : D → Prop} {E : XP}
    (hb : ∀ m wb, 1 ≤ m → m + 1 < bs.length → WideTo bs l0 m wb → body (.int (m : Int)) (bsD wb) = tp (bsD (wb.set m (wpair bs l0 m))))
    (hk : ∀ wb, WideTo bs l0 (bs.length - 1) wb → k (bsD wb) P E) : tb (forL body (rngF 1 (bs.length - 1)) (bsD bs)) k P E := by
  have two := G.two
  have loop : ∀ j m wb, 1 ≤ m → m + j = bs.length - 1 → WideTo bs l0 m wb → ∃ wb', forL body (rngF m (bs.length - 1)) (bsD wb) = tp (bsD wb') ∧ WideTo bs l0 (bs.length - 1) wb' := by
    intro j
    induction j with
    | zero =>
      intro m wb h1 h2 w
      rw [rngF_nil (by omega)]
      have : m = bs.length - 1 := by omega
      subst this
      exact ⟨wb, rfl, w⟩
    | succ j ih =>
      intro m wb h1 h2 w
      obtain ⟨wb', e, w'⟩ := ih (m + 1) _ (by omega) (by omega) (wide_step G w h1 (by omega))
      refine ⟨wb', ?_, w'⟩
      rw [rngF_cons (by omega)]
      show tb (body (.int (m : Int)) (bsD wb)) _ = _
      rw [hb m wb h1 (by omega) w, p_tb]
      exact e
  obtain ⟨wb', e, w⟩ := loop (bs.length - 1 - 1) 1 bs (Nat.le_refl 1) (by omega) ⟨rfl, G, fun i hi => by rw [if_neg (by omega)]⟩
  rw [e, p_tb]
  exact hk wb' w
theorem cut_mid {α : Type} (xs : List α) (f : α → D) {a b : Nat} (h1 : a ≤ b) (h2 : b ≤ xs.length) : cutD (.tup (xs.map f)) (some (a : Int)) (some (b : Int)) = some (.tup (((xs.drop a).take (b - a)).map f)) := by
  show some (D.tup (cutDs (xs.map f) (some (a : Int)) (some (b : Int)))) = _
  obtain ⟨ys, e1, e2⟩ := cutDs_map xs f (some (a : Int)) (some (b : Int))
  rw [e1, e2]
  have g1 : HT.sIx xs.length 0 (some (a : Int)) = a := by
    show (if (a : Int) < 0 then ((a : Int) + (xs.length : Int)).toNat else min (a : Int).toNat xs.length) = a
    rw [if_neg (by omega)]; omega
  have g2 : HT.sIx xs.length xs.length (some (b : Int)) = b := by
    show (if (b : Int) < 0 then ((b : Int) + (xs.length : Int)).toNat else min (b : Int).toNat xs.length) = b
    rw [if_neg (by omega)]; omega
  rw [g1, g2]
theorem cut_froml {α : Type} (xs : List α) (f : α → D) {h : Nat} (hh : h ≤ xs.length) : cutD (.lst (xs.map f)) (some (h : Int)) none = some (.lst ((xs.drop h).map f)) := by
  have := cut_from xs f hh
  unfold cutD at this ⊢
  simp only [Option.some.injEq, D.tup.injEq] at this
  simp only [this]
theorem isB_dict {d : D} (h : hasTy d = true) (hd : ∀ ds, d ≠ .dct ds) : isB [d, .opq (.ty "dict")] = some (.bl false) :=
  isB_of (p := fun _ => false) h (by decide +kernel) (fun _ _ => (show kitB "bool" "dict" = some false by decide +kernel)) (fun _ _ => (show kitB "int" "dict" = some false by decide +kernel)) (fun _ _ => (show kitB "str" "dict" = some false by decide +kernel)) (fun _ _ => (show kitB "tuple" "dict" = some false by decide +kernel)) (fun _ _ => (show kitB "list" "dict" = some false by decide +kernel)) (fun ds e => (hd ds e).elim)
theorem is_dct_tup (i : List D) : isB [.tup i, .opq (.ty "dict")] = some (.bl false) := isB_dict rfl (fun _ h => nomatch h)
theorem is_dct_lst (i : List D) : isB [.lst i, .opq (.ty "dict")] = some (.bl false) := isB_dict rfl (fun _ h => nomatch h)
def mx (f e : Rat) : Rat := if f < e then e else f
def mn (f e : Rat) : Rat := if e < f then e else f
def maxR : List Rat → Rat
  | [] => 0
  | x :: xs => xs.foldl mx x
def minR : List Rat → Rat
  | [] => 0
  | x :: xs => xs.foldl mn x
theorem mx_fold (l : List Rat) (x : Rat) : x ≤ l.foldl mx x ∧ (∀ y ∈ l, y ≤ l.foldl mx x) ∧ (l.foldl mx x = x ∨ l.foldl mx x ∈ l) := by
  induction l generalizing x with
  | nil => exact ⟨Rat.le_refl, fun _ h => (nomatch h), .inl rfl⟩
  | cons a l ih =>
    obtain ⟨h1, h2, h3⟩ := ih (mx x a)
    rw [List.foldl_cons]
    have e1 : x ≤ mx x a := by unfold mx; split <;> grind
    have e2 : a ≤ mx x a := by unfold mx; split <;> grind
    refine ⟨Rat.le_trans e1 h1, fun y hy => ?_, ?_⟩
    · rcases List.mem_cons.mp hy with rfl | hy
      · exact Rat.le_trans e2 h1
      · exact h2 y hy
    · rcases h3 with h3 | h3
      · rw [h3]
        unfold mx
        split
        · exact .inr List.mem_cons_self
        · exact .inl rfl
      · exact .inr (List.mem_cons_of_mem _ h3)
theorem mn_fold (l : List Rat) (x : Rat) : l.foldl mn x ≤ x ∧ (∀ y ∈ l, l.foldl mn x ≤ y) ∧ (l.foldl mn x = x ∨ l.foldl mn x ∈ l) := by
  induction l generalizing x with
  | nil => exact ⟨Rat.le_refl, fun _ h => (nomatch h), .inl rfl⟩
  | cons a l ih =>
    obtain ⟨h1, h2, h3⟩ := ih (mn x a)
    rw [List.foldl_cons]
    have e1 : mn x a ≤ x := by unfold mn; split <;> grind
    have e2 : mn x a ≤ a := by unfold mn; split <;> grind
    refine ⟨Rat.le_trans h1 e1, fun y hy => ?_, ?_⟩
    · rcases List.mem_cons.mp hy with rfl | hy
      · exact Rat.le_trans h1 e2
      · exact h2 y hy
    · rcases h3 with h3 | h3
      · rw [h3]
        unfold mn
        split
        · exact .inr List.mem_cons_self
        · exact .inl rfl
      · exact .inr (List.mem_cons_of_mem _ h3)
theorem le_maxR {l : List Rat} {x : Rat} (h : x ∈ l) : x ≤ maxR l := by
  cases l with
  | nil => cases h
  | cons a l =>
    obtain ⟨h1, h2, _⟩ := mx_fold l a
    rcases List.mem_cons.mp h with rfl | h
    · exact h1
    · exact h2 x h
theorem maxR_mem {l : List Rat} (h : l ≠ []) : maxR l ∈ l := by
  cases l with
  | nil => exact (h rfl).elim
  | cons a l =>
    obtain ⟨_, _, h3⟩ := mx_fold l a
    rcases h3 with h3 | h3
    · show l.foldl mx a ∈ _; rw [h3]; exact List.mem_cons_self
    · exact List.mem_cons_of_mem _ h3
theorem minR_le {l : List Rat} {x : Rat} (h : x ∈ l) : minR l ≤ x := by
  cases l with
  | nil => cases h
  | cons a l =>
    obtain ⟨h1, h2, _⟩ := mn_fold l a
    rcases List.mem_cons.mp h with rfl | h
    · exact h1
    · exact h2 x h
theorem minR_mem {l : List Rat} (h : l ≠ []) : minR l ∈ l := by
  cases l with
  | nil => exact (h rfl).elim
  | cons a l =>
    obtain ⟨_, _, h3⟩ := mn_fold l a
    rcases h3 with h3 | h3
    · show l.foldl mn a ∈ _; rw [h3]; exact List.mem_cons_self
    · exact List.mem_cons_of_mem _ h3
theorem maxR_le {l : List Rat} {y : Rat} (hne : l ≠ []) (h : ∀ x ∈ l, x ≤ y) : maxR l ≤ y := h _ (maxR_mem hne)
theorem le_minR {l : List Rat} {y : Rat} (hne : l ≠ []) (h : ∀ x ∈ l, y ≤ x) : y ≤ minR l := h _ (minR_mem hne)
def SmL (k : Nat) (l : List Rat) : Prop := ∀ x ∈ l, Sm k x
theorem SmL.max {k : Nat} {l : List Rat} (h : SmL k l) (hne : l ≠ []) : Sm k (maxR l) := h _ (maxR_mem hne)
theorem SmL.min {k : Nat} {l : List Rat} (h : SmL k l) (hne : l ≠ []) : Sm k (minR l) := h _ (minR_mem hne)
theorem fold_fr (f : Rat → Rat → Rat) (k : Nat) (hf : ∀ a b, f a b = a ∨ f a b = b) {body : D → D → TM D} (hb : ∀ a b, Sm k a → Sm k b → body (fr b) (fr a) = tp (fr (f a b))) {l : List Rat} (h : SmL k l) {x : Rat} (hx : Sm k x) : forL body (l.map fr) (fr x) = tp (fr (l.foldl f x)) := by
  refine forL_foldI (enc := fr) (es := fr) (f := f) (I := fun xs s => SmL k xs ∧ Sm k s) body l x (fun y xs s ⟨h1, h2⟩ => ?_) ⟨h, hx⟩
  have hy := h1 y List.mem_cons_self
  refine ⟨hb s y h2 hy, fun z hz => h1 z (List.mem_cons_of_mem _ hz), ?_⟩
  rcases hf s y with e | e <;> rw [e]
  · exact h2
  · exact hy
theorem mx_or (a b : Rat) : mx a b = a ∨ mx a b = b := by unfold mx; split; exact .inr rfl; exact .inl rfl
theorem mn_or (a b : Rat) : mn a b = a ∨ mn a b = b := by unfold mn; split; exact .inr rfl; exact .inl rfl
theorem mx_self (x : Rat) : mx x x = x := by unfold mx; split <;> rfl
theorem mn_self (x : Rat) : mn x x = x := by unfold mn; split <;> rfl
theorem sum_app (a b : List Rat) : (a ++ b).sum = a.sum + b.sum := List.sum_append ..
theorem divInt_eq (n : Int) {m : Int} (h : 0 < m) : Rat.divInt n m * (m : Rat) = (n : Rat) := by
  have e1 : (m : Rat) = Rat.divInt m 1 := (Rat.num_divInt_den (m : Rat)).symm
  rw [e1, Rat.divInt_mul_divInt, Int.mul_comm m 1, Rat.divInt_mul_right (by omega)]
  exact Rat.num_divInt_den (n : Rat)
theorem pos_cast {m : Int} (h : 0 < m) : (0 : Rat) < (m : Rat) := by
  have := (Rat.intCast_lt_intCast (a := 0) (b := m)).mpr h
  simpa using this
theorem range_ne {n : Nat} {α : Type} {f : Nat → α} (h : 0 < n) : (List.range n).map f ≠ [] := fun e => by
  have : ((List.range n).map f).length = 0 := by rw [e]; rfl
  simp at this
  omega
theorem mem_rng {α : Type} {f : Nat → α} {n i : Nat} (h : i < n) : f i ∈ (List.range n).map f := List.mem_map.mpr ⟨i, List.mem_range.mpr h, rfl⟩
theorem least_at (f : Nat → Rat) : ∀ n : Nat, 0 < n → ∃ i, i < n ∧ ∀ j, j < n → f i ≤ f j
  | 0, h => by omega
  | 1, _ => ⟨0, by omega, fun j hj => by rw [show j = 0 by omega]; exact Rat.le_refl⟩
  | n + 2, _ => by
    obtain ⟨i, h1, h2⟩ := least_at f (n + 1) (by omega)
    by_cases c : f (n + 1) < f i
    · refine ⟨n + 1, by omega, fun j hj => ?_⟩
      by_cases e : j = n + 1
      · rw [e]; exact Rat.le_refl
      · have := h2 j (by omega)
        grind
    · refine ⟨i, by omega, fun j hj => ?_⟩
      by_cases e : j = n + 1
      · rw [e]; grind
      · exact h2 j (by omega)
theorem SmL.mono {j k : Nat} {l : List Rat} (h : SmL j l) (e : j ≤ k) : SmL k l := fun x hx => (h x hx).mono e
theorem d_range1s {p : Nat} (h : p ≤ 1000) : range1 [.int ((p : Int) + 1)] = some ((List.range (p + 1)).map fun i : Nat => .int (i : Int)) := d_range1 (n := p + 1) (by omega)
theorem forXL_all {σ : Type} (body : D → σ → TM (Lx σ)) (s : σ) : ∀ ds : List D, (∀ d ∈ ds, body d s = tp (.go s)) → forXL body ds s = tp (.go s)
  | [], _ => rfl
  | d :: ds, h => by
    show tb (body d s) _ = _
    rw [h d List.mem_cons_self, p_tb]
    exact forXL_all body s ds fun e he => h e (List.mem_cons_of_mem _ he)
theorem ints_inj {a b : List Int} : a.map D.int = b.map D.int ↔ a = b := List.map_inj_right fun _ _ h => by injection h
theorem nice_ints (n : Nat) (l : List Int) : niceB (n + 2) (.lst (l.map .int)) = true := List.all_eq_true.mpr fun x hx => by
  obtain ⟨q, _, rfl⟩ := List.mem_map.mp hx
  rfl
theorem d_eqints (a b : List Int) : eqD (.lst (a.map .int)) (.lst (b.map .int)) = some (.bl (decide (a = b))) := by
  rw [d_eqn (nice_ints 58 a) (nice_ints 58 b)]
  congr 2
  exact decide_eq_decide.mpr (by rw [D.lst.injEq, ints_inj])
theorem d_nefrs (a b : List Rat) : neD (.tup (a.map fr)) (.tup (b.map fr)) = some (.bl (!decide (a = b))) := by
  rw [d_nen (nice_frs 57 a) (nice_frs 57 b)]
  congr 3
  exact decide_eq_decide.mpr (by rw [D.tup.injEq, frs_inj])
theorem intsD_map : ∀ ns : List Int, intsD (ns.map .int) = some ns
  | [] => rfl
  | n :: ns => by
    show (intsD (ns.map .int)).map _ = _
    rw [intsD_map ns]
    rfl
def srt (ns : List Int) : List Int := ns.mergeSort fun a b => decide (a ≤ b)
theorem d_sort (ns : List Int) : sortB [.lst (ns.map .int)] = some ((srt ns).map .int) := by
  show (intsD (ns.map .int)).map _ = _
  rw [intsD_map]
  rfl
theorem srt_iff (ns : List Int) : ns = srt ns ↔ ns.Pairwise (· ≤ ·) := by
  constructor
  · intro h
    rw [h]
    have := List.pairwise_mergeSort (le := fun a b : Int => decide (a ≤ b)) (fun a b c h1 h2 => by simp at *; omega) (fun a b => by simp; omega) ns
    exact this.imp fun h => by simpa using h
  · intro h
    exact sort_is (List.Perm.refl _) h
theorem max_map {ns : List Int} (h : ns ≠ []) : ∃ m, maxB [.lst (ns.map .int)] = some (.int m) ∧ ∀ y ∈ ns, y ≤ m := by
  cases ns with
  | nil => exact (h rfl).elim
  | cons i r =>
    have e : maxL (i :: r) = some (r.foldl max i) := rfl
    have := maxL_mem e
    refine ⟨_, ?_, this.2⟩
    show (numsOf ((i :: r).map .int)).bind _ = _
    rw [nums_map]
    rfl
theorem maxR_map (f : Rat → Rat) (hf : ∀ a b, a ≤ b → f a ≤ f b) {l : List Rat} (h : l ≠ []) : maxR (l.map f) = f (maxR l) := by
  have h' : l.map f ≠ [] := by simpa using h
  refine Rat.le_antisymm (maxR_le h' fun x hx => ?_) (le_maxR (List.mem_map.mpr ⟨_, maxR_mem h, rfl⟩))
  obtain ⟨y, hy, rfl⟩ := List.mem_map.mp hx
  exact hf _ _ (le_maxR hy)
theorem minR_map (f : Rat → Rat) (hf : ∀ a b, a ≤ b → f a ≤ f b) {l : List Rat} (h : l ≠ []) : minR (l.map f) = f (minR l) := by
  have h' : l.map f ≠ [] := by simpa using h
  refine Rat.le_antisymm (minR_le (List.mem_map.mpr ⟨_, minR_mem h, rfl⟩)) (le_minR h' fun x hx => ?_)
  obtain ⟨y, hy, rfl⟩ := List.mem_map.mp hx
  exact hf _ _ (minR_le hy)
theorem comp_frs {te : D → TM D} (ht : ∀ x : Int, te (.int x) = tp (fr (x : Rat))) (ns : List Int) : compL tp (fun _ => tp true) te (ns.map .int) = tp ((ns.map fun x : Int => (x : Rat)).map fr) := by
  rw [List.map_map]
  refine compL_map .int _ _ _ _ ns fun v hv => ?_
  simp only [p_tb, if_true, ht]
  rfl
theorem comp_abs (ns : List Int) : compL tp (fun _ => tp true) (fun v => tO (absB [v])) (ns.map .int) = tp ((ns.map fun x => (x.natAbs : Int)).map .int) := by
  rw [List.map_map]
  refine compL_map .int _ _ _ _ ns fun v hv => ?_
  simp
theorem trues_of {l : List D} (h : ∀ y ∈ l, y = .bl true) : allB [.lst l] = some (.bl true) := by
  have e : l = l.map fun _ => D.bl true := by
    refine List.ext_getElem (by simp) fun i h1 h2 => ?_
    rw [List.getElem_map]
    exact h _ (List.getElem_mem h1)
  rw [e]
  exact all_trues l
theorem turns (a b n : Nat) : ∃ m : Nat, m ≤ a ∧ (tb (tO (max2B [.int (b : Int), .int (n : Int)])) fun x => tO (min2B [.int (a : Int), x])) = tp (.int (m : Int)) := by
  refine ⟨min a (max b n), by omega, ?_⟩
  rw [d_max2, p_tO, p_tb, d_min2, p_tO]
  congr 2
  split <;> split <;> omega
end FL
namespace FL
open PySem PySem.Spec L2
section
variable {E : XP}
/-! family 6: what its laws have alike -/
def gB : Nat → D → Bool
  | 0, _ => false
  | n + 1, d => match d with
    | .non => true
    | .bl _ => true
    | .int _ => true
    | .tup ds => decide (ds.length ≤ 1000) && ds.all (gB n)
    | .lst ds => decide (ds.length ≤ 1000) && ds.all (gB n)
    | _ => false
theorem e_same6 : ∀ (n : Nat) (d : D), gB n d = true → t__law_same n d d = tp (.bl true)
  | 0, d, h => by cases h
  | n + 1, d, h => by
    have row : ∀ ds : List D, ds.length ≤ 1000 → (∀ x ∈ ds, gB n x = true) → ∀ (c : List D → D), (∀ i : Nat, (hi : i < ds.length) → ixD (c ds) (.int (i : Int)) = some ds[i]) → compL tp (fun _ => tp true) (fun k => tb (tO (ixD (c ds) k)) fun a => tb (tO (ixD (c ds) k)) fun b => t__law_same n a b) ((List.range ds.length).map fun i : Nat => .int (i : Int)) = tp ((List.range ds.length).map fun _ => .bl true) := by
      intro ds hl hd c hc
      refine compL_map (fun i : Nat => .int (i : Int)) (fun _ => .bl true) _ _ _ _ fun i hi => ?_
      have hi := List.mem_range.mp hi
      simp [hc i hi, e_same6 n _ (hd _ (List.getElem_mem hi))]
    cases d <;> try (cases h; done)
    · simp [t__law_same]
    · simp [t__law_same]
    · simp [t__law_same]
    · rename_i ds
      have h' : (decide (ds.length ≤ 1000) && ds.all (gB n)) = true := h
      rw [Bool.and_eq_true, decide_eq_true_eq] at h'
      have r := row ds h'.1 (fun x hx => List.all_eq_true.mp h'.2 x hx) .tup fun i hi => d_ix (List.getElem?_eq_getElem hi)
      have hl : ds.length ≤ 100000 := by omega
      simp [t__law_same, d_range1 (show ds.length ≤ 1000000 by omega), r, all_trues, hl]
    · rename_i ds
      have h' : (decide (ds.length ≤ 1000) && ds.all (gB n)) = true := h
      rw [Bool.and_eq_true, decide_eq_true_eq] at h'
      have r := row ds h'.1 (fun x hx => List.all_eq_true.mp h'.2 x hx) .lst fun i hi => d_ixl (List.getElem?_eq_getElem hi)
      have hl : ds.length ≤ 100000 := by omega
      simp [t__law_same, d_range1 (show ds.length ≤ 1000000 by omega), r, all_trues, hl]
theorem gB_fr (n : Nat) (q : Rat) : gB (n + 2) (fr q) = true := rfl
theorem gB_frs (n : Nat) {l : List Rat} (h : l.length ≤ 1000) : gB (n + 3) (.tup (l.map fr)) = true := by
  show (decide ((l.map fr).length ≤ 1000) && (l.map fr).all (gB (n + 2))) = true
  rw [Bool.and_eq_true, decide_eq_true_eq, List.length_map]
  exact ⟨h, List.all_eq_true.mpr fun x hx => by
    obtain ⟨q, _, rfl⟩ := List.mem_map.mp hx
    exact gB_fr n q⟩
theorem n_of {ds : List D} (h1 : 1 ≤ ds.length) (h2 : ds.length ≤ 1000) {P : D → Prop} (h : ∀ d ∈ ds, P d) : t__law_of (.tup ds) P E := by
  simp only [t__law_of, x_2, x_cons, x_Bf, p_tb, p_tbb, d_len, p_tO, p_u1, k_take]
  refine ⟨by omega, by omega, fun t t0 t1 => ?_⟩
  obtain ⟨i, rfl⟩ : ∃ k : Nat, t = (k : Int) := ⟨t.toNat, by omega⟩
  rw [d_ix (List.getElem?_eq_getElem (show i < ds.length by omega)), p_tO]
  exact h _ (List.getElem_mem _)
end
end FL
namespace FL
open PySem PySem.Spec L2
section
variable {E : XP}
theorem whileT_map {σ τ : Type} (e : σ → τ) {tc : σ → TM Bool} {body : σ → TM σ} {tc' : τ → TM Bool} {body' : τ → TM τ} (h1 : ∀ s, tc' (e s) = tc s) (h2 : ∀ s, body' (e s) = tb (body s) fun s => tp (e s)) : ∀ (n : Nat) (s : σ), whileT tc' body' n (e s) = tb (whileT tc body n s) fun s => tp (e s)
  | 0, _ => rfl
  | n + 1, s => by
    show (tb (tc' (e s)) fun k => if k then tb (body' (e s)) fun s' => whileT tc' body' n s' else tp (e s)) = tb (tb (tc s) fun k => if k then tb (body s) fun s' => whileT tc body n s' else tp s) fun s => tp (e s)
    rw [h1, h2, p_tbb]
    refine congrArg (tb (tc s)) ?_
    funext k
    cases k with
    | false => rfl
    | true =>
      show tb (tb (body s) fun s => tp (e s)) (fun s' => whileT tc' body' n s') = tb (tb (body s) fun s' => whileT tc body n s') fun s => tp (e s)
      rw [p_tbb, p_tbb]
      refine congrArg (tb (body s)) ?_
      funext s'
      exact whileT_map e h1 h2 n s'
theorem e_part6 {n m : Int} (h0 : 0 < m) (h1 : m.natAbs < 2 ^ 490) : t__law_part (.int n) (.int m) = tp (fr (Rat.divInt n m)) := by
  have hg : 0 < Nat.gcd n.natAbs m.natAbs := Nat.gcd_pos_of_pos_right _ (by omega)
  have hg2 : Nat.gcd n.natAbs m.natAbs ≤ m.natAbs := Nat.gcd_le_right _ (by omega)
  have hp := part_fr (n := n) (m := m) h0
  have hg3 : ((Nat.gcd n.natAbs m.natAbs : Nat) : Int).natAbs < 2 ^ 4096 := by
    rw [Int.natAbs_natCast]
    exact Nat.lt_of_lt_of_le (Nat.lt_of_le_of_lt hg2 h1) (pow_le _ _ (by decide))
  have hc := t_euclid 490 1000 n.natAbs m.natAbs h1 (by omega)
  have hw := whileT_map (fun s : D × D => (s.2, s.1)) (tc := fun s1 => (tMT (t2 gtD (tp s1.2) (tp (.int 0))))) (body := fun s1 => (tP2 (tCons (tp s1.2) (tCons (t2 modD (tBf intB (tCons (tp s1.1) (tp []))) (tp s1.2)) (tp []))) fun x_one_3 x_two_3 => (tp (x_one_3, x_two_3)))) (tc' := fun s2 => (tMT (t2 gtD (tp s2.1) (tp (.int 0))))) (body' := fun s2 => (tP2 (tCons (tp s2.1) (tCons (t2 modD (tBf intB (tCons (tp s2.2) (tp []))) (tp s2.1)) (tp []))) fun x_low_2 x_high_2 => (tp (x_high_2, x_low_2)))) (fun _ => rfl) (fun s => by
    simp only [x_cons, x_2, x_Bf, p_tb, p_tbb, x_P2, x_m2]) 1000 (.int (n.natAbs : Int), .int (m.natAbs : Int))
  rw [hc, p_tb] at hw
  generalize hgg : Nat.gcd n.natAbs m.natAbs = g at *
  have e2 : ∀ i : Int, divD (.int i) (.int (g : Int)) = some (.int (i / g)) := fun i => div_ok (by omega) hg3
  have mm : m = (m.natAbs : Int) := by omega
  have lt : ¬ (m < 0) := by omega
  simp only [t__law_part, x_if, x_MT, x_2, d_lt, lt, decide_false, p_tb, p_tbb, p_tO, d_unBl, Bool.false_eq_true, if_false, x_P2, x_m2, x_cons, x_Bf, d_absB]
  have hw' : whileT (σ := D × D) (fun s2 => (tMT (t2 gtD (tp s2.1) (tp (.int 0))))) (fun s2 => (tP2 (tCons (tp s2.1) (tCons (t2 modD (tBf intB (tCons (tp s2.2) (tp []))) (tp s2.1)) (tp []))) fun x_low_2 x_high_2 => (tp (x_high_2, x_low_2)))) 1000 (.int m, .int (n.natAbs : Int)) = tp (.int 0, .int (g : Int)) := by
    have : (D.int m, D.int (n.natAbs : Int)) = (D.int (m.natAbs : Int), D.int (n.natAbs : Int)) := by rw [← mm]
    rw [this]
    exact hw
  simp only [x_MT, x_2, x_P2, x_m2, x_cons, x_Bf, p_tb, p_tbb] at hw'
  rw [hw']
  simp only [p_tb, x_tup, x_cons, p_tbb, x_2, e2, p_tO, List.length_cons, List.length_nil, Nat.zero_add, Nat.reduceAdd, Nat.reduceLeDiff, most_eq, p_tA, p_tbA]
  rw [hp]
theorem e_below6 {a b : Rat} (ha : Sm 2000 a) (hb : Sm 2000 b) : t__law_is_below (fr a) (fr b) = tp (.bl (decide (a < b))) := by
  simp [t__law_is_below, mul_sm ha.1 (den_sm hb), mul_sm hb.1 (den_sm ha), lt_fr]
theorem sub_fr6 (a b : Rat) : Rat.divInt (a.num * b.den - b.num * a.den) ((a.den : Int) * b.den) = a - b := by
  have := add_fr a (-b)
  rw [Rat.neg_num, Rat.neg_den] at this
  rw [Rat.sub_eq_add_neg, ← this]
  congr 1
  rw [Int.neg_mul]
  omega
theorem e_less6 {a b : Rat} (ha : Sm 240 a) (hb : Sm 240 b) : t__law_less (fr a) (fr b) = tp (fr (a - b)) := by
  have d := dens ha hb
  have := e_part6 (n := a.num * b.den - b.num * a.den) d.1 (Nat.lt_of_lt_of_le d.2 (pow_le _ _ (by decide)))
  rw [sub_fr6] at this
  simp [t__law_less, mul_sm ha.1 (den_sm hb), mul_sm hb.1 (den_sm ha), mul_sm (den_sm ha) (den_sm hb), this]
end
end FL
namespace FL
open PySem PySem.Spec L2
section
/-! floods: plain mathematics -/
def dep (x : Int) (h : Rat) : Rat := if (x : Rat) < h then h - x else 0
theorem dep_nn (x : Int) (h : Rat) : 0 ≤ dep x h := by unfold dep; split <;> grind
theorem dep_mono (x : Int) {h h' : Rat} (e : h ≤ h') : dep x h ≤ dep x h' := by unfold dep; split <;> split <;> grind
def pour : List Int → Rat → Rat
  | [], _ => 0
  | x :: xs, h => dep x h + pour xs h
theorem pour_nn (h : Rat) : ∀ xs, 0 ≤ pour xs h
  | [] => Rat.le_refl
  | x :: xs => by have := pour_nn h xs; have := dep_nn x h; show 0 ≤ dep x h + pour xs h; grind
theorem pour_mono {h h' : Rat} (e : h ≤ h') : ∀ xs, pour xs h ≤ pour xs h'
  | [] => Rat.le_refl
  | x :: xs => by have := pour_mono e xs; have := dep_mono x e; show dep x h + pour xs h ≤ dep x h' + pour xs h'; grind
theorem pour_perm (h : Rat) {a b : List Int} (p : a.Perm b) : pour a h = pour b h := by
  induction p with
  | nil => rfl
  | cons x _ ih => show dep x h + _ = dep x h + _; rw [ih]
  | swap x y l => show dep y h + (dep x h + pour l h) = dep x h + (dep y h + pour l h); grind
  | trans _ _ h1 h2 => rw [h1, h2]
theorem pour_app (h : Rat) : ∀ a b, pour (a ++ b) h = pour a h + pour b h
  | [], b => by show pour b h = 0 + pour b h; rw [Rat.zero_add]
  | x :: a, b => by show dep x h + pour (a ++ b) h = dep x h + pour a h + pour b h; rw [pour_app h a b]; grind
theorem pour_eq {h h' : Rat} (e : h ≤ h') : ∀ xs, pour xs h' ≤ pour xs h → ∀ x ∈ xs, dep x h = dep x h'
  | [], _, x, hx => by cases hx
  | y :: xs, s, x, hx => by
    have a := pour_mono e xs
    have b := dep_mono y e
    have s : dep y h' + pour xs h' ≤ dep y h + pour xs h := s
    rcases List.mem_cons.mp hx with rfl | hx
    · exact Rat.le_antisymm b (by grind)
    · exact pour_eq e xs (by grind) x hx
/-- how much a floor has is told by how much is poured -/
theorem dep_same {xs : List Int} {h h' : Rat} (e : pour xs h = pour xs h') : ∀ x ∈ xs, dep x h = dep x h' := fun x hx => by
  rcases Rat.le_total (a := h) (b := h') with c | c
  · exact pour_eq c xs (by rw [e]; exact Rat.le_refl) x hx
  · exact (pour_eq c xs (by rw [e]; exact Rat.le_refl) x hx).symm
theorem dep_more {xs : List Int} {h h' : Rat} (e : pour xs h ≤ pour xs h') : ∀ x ∈ xs, dep x h ≤ dep x h' := fun x hx => by
  rcases Rat.le_total (a := h) (b := h') with c | c
  · exact dep_mono x c
  · rw [pour_eq c xs e x hx]; exact Rat.le_refl
theorem pour_pos {h : Rat} : ∀ xs, 0 < pour xs h → ∃ x ∈ xs, (x : Rat) < h
  | [], s => absurd s Rat.lt_irrefl
  | x :: xs, s => by
    by_cases c : (x : Rat) < h
    · exact ⟨x, List.mem_cons_self, c⟩
    · have z : dep x h = 0 := by unfold dep; rw [if_neg c]
      have s : 0 < dep x h + pour xs h := s
      rw [z, Rat.zero_add] at s
      obtain ⟨y, hy, d⟩ := pour_pos xs s
      exact ⟨y, List.mem_cons_of_mem _ hy, d⟩
/-- there is just one level -/
theorem level_one {xs : List Int} {h h' : Rat} (e : pour xs h = pour xs h') (p : 0 < pour xs h) : h = h' := by
  obtain ⟨x, hx, c⟩ := pour_pos xs p
  have s := dep_same e x hx
  unfold dep at s
  rw [if_pos c] at s
  split at s <;> grind
theorem pour_all {h : Rat} : ∀ xs : List Int, (∀ x ∈ xs, (x : Rat) < h) → pour xs h = (xs.length : Rat) * h - ((xs.sum : Int) : Rat)
  | [], _ => by show (0 : Rat) = ((0 : Nat) : Rat) * h - ((0 : Int) : Rat); simp; grind
  | x :: xs, s => by
    have ih := pour_all xs fun y hy => s y (List.mem_cons_of_mem _ hy)
    have d : dep x h = h - x := by unfold dep; rw [if_pos (s x List.mem_cons_self)]
    show dep x h + pour xs h = _
    rw [d, ih, List.sum_cons, Rat.intCast_add, List.length_cons]
    have : ((xs.length + 1 : Nat) : Rat) = (xs.length : Rat) + 1 := by simp
    rw [this]
    grind
theorem pour_none {h : Rat} : ∀ xs : List Int, (∀ x ∈ xs, ¬ (x : Rat) < h) → pour xs h = 0
  | [], _ => rfl
  | x :: xs, s => by
    have d : dep x h = 0 := by unfold dep; rw [if_neg (s x List.mem_cons_self)]
    show dep x h + pour xs h = _
    rw [d, pour_none xs fun y hy => s y (List.mem_cons_of_mem _ hy), Rat.zero_add]
def Lm (l : List Int) (p : Int) (m : Nat) : Rat := Rat.divInt (p + (l.take m).sum) (m : Int)
theorem Lm_mul (l : List Int) (p : Int) {m : Nat} (h : 0 < m) : Lm l p m * (m : Rat) = ((p + (l.take m).sum : Int) : Rat) := divInt_eq _ (m := (m : Int)) (by omega)
theorem first_stop (P : Nat → Prop) : ∀ n, 1 ≤ n → P n → ∃ m, 1 ≤ m ∧ m ≤ n ∧ P m ∧ ∀ j, 1 ≤ j → j < m → ¬ P j := fun n => by
  induction n using Nat.strongRecOn with
  | ind n ih =>
    intro h1 hp
    by_cases c : ∃ j, 1 ≤ j ∧ j < n ∧ P j
    · obtain ⟨j, j1, j2, j3⟩ := c
      obtain ⟨m, a, b, d⟩ := ih j j2 j1 j3
      exact ⟨m, a, by omega, d⟩
    · exact ⟨n, h1, Nat.le_refl _, hp, fun j j1 j2 j3 => c ⟨j, j1, j2, j3⟩⟩
/-- the sum over so many lowest, divided, is the level -/
theorem stop_level {l : List Int} {p : Int} (p0 : 0 < p) (so : l.Pairwise (· ≤ ·)) {m : Nat} (m1 : 1 ≤ m) (mn : m ≤ l.length)
    (hb : ∀ j, 1 ≤ j → j < m → (((l.getD j 0 : Int)) : Rat) < Lm l p j) (he : m = l.length ∨ ¬ (((l.getD m 0 : Int)) : Rat) < Lm l p m) : pour l (Lm l p m) = (p : Rat) := by
  have mono : ∀ i j, i ≤ j → (hj : j < l.length) → l.getD i 0 ≤ l.getD j 0 := fun i j hij hj => by
    have g : ∀ k, (hk : k < l.length) → l.getD k 0 = l[k] := fun k hk => by simp [List.getD, List.getElem?_eq_getElem hk]
    rw [g i (by omega), g j hj]
    by_cases c : i = j
    · subst c; exact Int.le_refl _
    · exact List.pairwise_iff_getElem.mp so i j (by omega) hj (by omega)
  have mp : ∀ k : Nat, 0 < k → (0 : Rat) < (k : Rat) := fun k hk => by
    have : ((0 : Int) : Rat) < ((k : Int) : Rat) := Rat.intCast_lt_intCast.mpr (by omega)
    exact this
  have lm := Lm_mul l p (m := m) (by omega)
  have last : (((l.getD (m - 1) 0 : Int)) : Rat) < Lm l p m := by
    have su : (l.take m).sum = (l.take (m - 1)).sum + l.getD (m - 1) 0 := by
      have e : l.take m = l.take (m - 1) ++ [l.getD (m - 1) 0] := by
        have : m = (m - 1) + 1 := by omega
        rw [this, List.take_add_one, List.getElem?_eq_getElem (by omega)]
        simp [List.getD, List.getElem?_eq_getElem (show m - 1 < l.length by omega)]
      rw [e, List.sum_append]
      simp
    by_cases c : m = 1
    · subst c
      have z : (l.take (1 - 1)).sum = 0 := rfl
      rw [su, z] at lm
      have k1 : (((1 : Nat)) : Rat) = 1 := by simp
      rw [k1, Rat.mul_one] at lm
      rw [lm]
      exact Rat.intCast_lt_intCast.mpr (by omega)
    · have b := hb (m - 1) (by omega) (by omega)
      have lm' := Lm_mul l p (m := m - 1) (by omega)
      have q := mp (m - 1) (by omega)
      have ce : ((m : Nat) : Rat) = ((m - 1 : Nat) : Rat) + 1 := by
        have : m = (m - 1) + 1 := by omega
        have e2 : ((m - 1 + 1 : Nat) : Rat) = ((m - 1 : Nat) : Rat) + 1 := by simp
        rw [← this] at e2
        exact e2
      rw [su, ← Int.add_assoc, Rat.intCast_add, ← lm', ce] at lm
      generalize (((l.getD (m - 1) 0 : Int)) : Rat) = y at *
      generalize Lm l p (m - 1) = u at *
      generalize Lm l p m = v at *
      generalize ((m - 1 : Nat) : Rat) = k at *
      by_cases d : y < v
      · exact d
      · have h1 := Rat.mul_pos (show 0 < u - y by grind) q
        have h2 := Rat.mul_nonneg (show 0 ≤ y - v by grind) (show (0 : Rat) ≤ k + 1 by grind)
        grind
  have lo : ∀ x ∈ l.take m, (x : Rat) < Lm l p m := fun x hx => by
    obtain ⟨i, hi, rfl⟩ := List.getElem_of_mem hx
    rw [List.length_take] at hi
    rw [List.getElem_take]
    have := mono i (m - 1) (by omega) (by omega)
    have g : l.getD i 0 = l[i]'(by omega) := by simp [List.getD, List.getElem?_eq_getElem (show i < l.length by omega)]
    rw [g] at this
    have := Rat.intCast_le_intCast.mpr this
    grind
  have hi : ∀ x ∈ l.drop m, ¬ (x : Rat) < Lm l p m := fun x hx => by
    rcases he with e | e
    · rw [e, List.drop_length] at hx
      cases hx
    · obtain ⟨i, hi, rfl⟩ := List.getElem_of_mem hx
      rw [List.length_drop] at hi
      rw [List.getElem_drop]
      have := mono m (m + i) (by omega) (by omega)
      have g : l.getD (m + i) 0 = l[m + i]'(by omega) := by simp [List.getD, List.getElem?_eq_getElem (show m + i < l.length by omega)]
      rw [g] at this
      have := Rat.intCast_le_intCast.mpr this
      grind
  have sp : pour l (Lm l p m) = pour (l.take m ++ l.drop m) (Lm l p m) := by rw [List.take_append_drop]
  rw [sp, pour_app, pour_all _ lo, pour_none _ hi, List.length_take, show min m l.length = m by omega, Rat.add_zero, Rat.mul_comm, lm, Rat.intCast_add]
  grind
structure Flo (xs : List Int) : Prop where
  one : 1 ≤ xs.length
  nine : xs.length ≤ 9
  ok : ∀ x ∈ xs, -9999 ≤ x ∧ x ≤ 9999
end
end FL
namespace FL
open PySem PySem.Spec L2
section
variable {xs : List Int} {p : Int} {E : XP}
theorem d_sort_tup (ns : List Int) : sortB [.tup (ns.map .int)] = some ((srt ns).map .int) := by
  show (intsD (ns.map .int)).map _ = _
  rw [intsD_map]
  rfl
theorem srt_perm (ns : List Int) : (srt ns).Perm ns := List.mergeSort_perm ns _
theorem srt_len (ns : List Int) : (srt ns).length = ns.length := (srt_perm ns).length_eq
theorem srt_sorted (ns : List Int) : (srt ns).Pairwise (· ≤ ·) := by
  have := List.pairwise_mergeSort (le := fun a b : Int => decide (a ≤ b)) (fun a b c h1 h2 => by simp at *; omega) (fun a b => by simp; omega) ns
  exact this.imp fun h => by simpa using h
theorem cut_tol {α : Type} (xs : List α) (f : α → D) {h : Nat} (hh : h ≤ xs.length) : cutD (.lst (xs.map f)) none (some (h : Int)) = some (.lst ((xs.take h).map f)) := by
  show some (D.lst (cutDs (xs.map f) none (some (h : Int)))) = _
  obtain ⟨ys, e1, e2⟩ := cutDs_map xs f none (some (h : Int))
  rw [e1, e2]
  have : HT.sIx xs.length xs.length (some (h : Int)) = h := by
    show (if (h : Int) < 0 then ((h : Int) + (xs.length : Int)).toNat else min (h : Int).toNat xs.length) = h
    rw [if_neg (by omega)]; omega
  rw [this, show HT.sIx xs.length 0 none = 0 from rfl]
  simp
theorem cut_but {α : Type} (xs : List α) (f : α → D) (h : 1 ≤ xs.length) : cutD (.lst (xs.map f)) none (some (-1)) = some (.lst ((xs.take (xs.length - 1)).map f)) := by
  show some (D.lst (cutDs (xs.map f) none (some (-1)))) = _
  obtain ⟨ys, e1, e2⟩ := cutDs_map xs f none (some (-1))
  rw [e1, e2]
  have : HT.sIx xs.length xs.length (some (-1)) = xs.length - 1 := by
    show (if (-1 : Int) < 0 then ((-1 : Int) + (xs.length : Int)).toNat else min (-1 : Int).toNat xs.length) = _
    rw [if_pos (by omega)]; omega
  rw [this, show HT.sIx xs.length 0 none = 0 from rfl]
  simp
theorem forXL_first {σ : Type} {body : D → σ → TM (Lx σ)} {s : σ} {v : D} : ∀ (ds : List D) (d : D) (es : List D), (∀ x ∈ ds, body x s = tp (.go s)) → body d s = tp (.rt v) → forXL body (ds ++ d :: es) s = tp (.rt v)
  | [], d, es, _, h => by
    show tb (body d s) _ = _
    rw [h, p_tb]
  | x :: ds, d, es, h1, h => by
    show tb (body x s) _ = _
    rw [h1 x List.mem_cons_self, p_tb]
    exact forXL_first ds d es (fun y hy => h1 y (List.mem_cons_of_mem _ hy)) h
theorem forXL_goes {σ : Type} {body : D → σ → TM (Lx σ)} {s : σ} : ∀ (ds : List D), (∀ x ∈ ds, body x s = tp (.go s)) → forXL body ds s = tp (.go s)
  | [], _ => rfl
  | x :: ds, h1 => by
    show tb (body x s) _ = _
    rw [h1 x List.mem_cons_self, p_tb]
    exact forXL_goes ds fun y hy => h1 y (List.mem_cons_of_mem _ hy)
theorem rng_split {g : Nat → D} {n m : Nat} (h : m < n) : (List.range n).map g = (List.range m).map g ++ g m :: ((List.range n).drop (m + 1)).map g := by
  have e : List.range n = List.range m ++ m :: (List.range n).drop (m + 1) := by
    have := List.take_append_drop m (List.range n)
    rw [List.take_range, show min m n = m by omega, List.drop_eq_getElem_cons (by simpa using h), List.getElem_range] at this
    exact this.symm
  calc (List.range n).map g = (List.range m ++ m :: (List.range n).drop (m + 1)).map g := by rw [← e]
    _ = _ := by rw [List.map_append, List.map_cons]
theorem Flo.srt (G : Flo xs) : Flo (srt xs) := ⟨by rw [srt_len]; exact G.one, by rw [srt_len]; exact G.nine, fun x hx => G.ok x ((srt_perm xs).mem_iff.mp hx)⟩
theorem sum_bd : ∀ l : List Int, (∀ x ∈ l, -9999 ≤ x ∧ x ≤ 9999) → -(9999 * (l.length : Int)) ≤ l.sum ∧ l.sum ≤ 9999 * (l.length : Int)
  | [], _ => by simp
  | x :: l, h => by
    have a := h x List.mem_cons_self
    have b := sum_bd l fun y hy => h y (List.mem_cons_of_mem _ hy)
    rw [List.sum_cons, List.length_cons]
    omega
/-- a level: what is known of it -/
structure Lvl (xs : List Int) (p : Int) (h : Rat) : Prop where
  is : pour xs h = (p : Rat)
  fx : ∃ m : Nat, 1 ≤ m ∧ m ≤ 9 ∧ Fx m 200000 h
theorem Lm_fx {l : List Int} (G : Flo l) (p0 : 0 ≤ p) (p1 : p ≤ 9999) {m : Nat} (m1 : 1 ≤ m) (mn : m ≤ l.length) : Fx m 200000 (Lm l p m) := by
  have b := sum_bd (l.take m) fun x hx => G.ok x (List.mem_of_mem_take hx)
  have hl : (l.take m).length = m := by rw [List.length_take]; omega
  rw [hl] at b
  have := G.nine
  exact ⟨by omega, _, rfl, by omega⟩
theorem fx_sm9 {m M : Nat} {h : Rat} (f : Fx m M h) (m9 : m ≤ 9) (hM : M < 2 ^ 30) (k : Nat) (hk : 30 ≤ k) : Sm k h := f.sm (Nat.lt_of_lt_of_le (show m < 2 ^ 30 by omega) (pow_le _ _ hk)) (Nat.lt_of_lt_of_le hM (pow_le _ _ hk))
theorem sm_fl {x : Int} (h : -9999 ≤ x ∧ x ≤ 9999) : Sm 20 ((x : Int) : Rat) := sm_int (k := 19) (by omega)
theorem enum_rng {g : Nat → D} {n : Nat} : enum2 [.lst ((List.range n).map g), .int 1] = some ((List.range n).map fun j : Nat => .tup [.int ((1 + j : Nat) : Int), g j]) := by
  have e : enum2 [.lst ((List.range n).map g), .int 1] = some (enumC 1 ((List.range n).map g)) := by
    show (if rgOk 1 then (rowD (.lst ((List.range n).map g))).map (enumC 1) else none) = _
    rw [if_pos (by decide)]
    rfl
  rw [e]
  unfold enumC
  rw [List.length_map, List.length_range]
  congr 1
  refine List.map_congr_left fun i hi => ?_
  have hi := List.mem_range.mp hi
  have : ((List.range n).map g).getD i .non = g i := by simp [List.getD, hi]
  rw [this]
  congr 2
theorem e_level (G : Flo xs) (p0 : 0 < p) (p1 : p ≤ 9999) : ∃ h, t_flood_level_by (.tup (xs.map .int)) (.int p) = tp (fr h) ∧ Lvl xs p h := by
  have hn := srt_len xs
  have g1 := G.one
  have g9 := G.nine
  have GS := G.srt
  obtain ⟨M, m1, mn, st, nb⟩ := first_stop (fun m => m = xs.length ∨ ¬ ((((srt xs).getD m 0 : Int)) : Rat) < Lm (srt xs) p m) xs.length g1 (.inl rfl)
  have low : ∀ j, 1 ≤ j → j < M → ((((srt xs).getD j 0 : Int)) : Rat) < Lm (srt xs) p j := fun j a b => by
    by_cases c : ((((srt xs).getD j 0 : Int)) : Rat) < Lm (srt xs) p j
    · exact c
    · exact absurd (.inr c) (nb j a b)
  have pl := stop_level p0 (srt_sorted xs) m1 (by omega) low (by rw [hn]; exact st)
  refine ⟨Lm (srt xs) p M, ?_, ⟨by rw [← pour_perm _ (srt_perm xs)]; exact pl, M, m1, by omega, Lm_fx GS (by omega) p1 m1 (by omega)⟩⟩
  have np : ¬ p = 0 := by omega
  have r2 : range2 [.int 1, .int ((xs.length : Int) + 1)] = some ((List.range xs.length).map fun j : Nat => .int ((1 + j : Nat) : Int)) := by
    have := d_range2 (p := 1) (n := xs.length + 1) (by omega) (by omega)
    exact this
  have lel : lenB [.lst ((srt xs).map .int)] = some (.int (xs.length : Int)) := by rw [d_lenl, List.length_map, hn]
  simp only [t_flood_level_by, x_if, x_MT, x_2, p_tb, p_tbb, d_eqi, decide_eq_false np, p_tO, d_unBl, Bool.false_eq_true, if_false, x_fz, x_Bf, x_cons, d_sort_tup, x_comp, lel, d_add, r2, List.length_map, List.length_range, most_eq, show xs.length ≤ 100000 by omega, p_tA, p_tbA]
  rw [compL_map (fun j : Nat => D.int ((1 + j : Nat) : Int)) (fun j => fr (Lm (srt xs) p (1 + j))) _ _ _ (List.range xs.length) ?g1]
  case g1 =>
    intro j hj
    have hj := List.mem_range.mp hj
    have ct := cut_tol (srt xs) .int (h := 1 + j) (by omega)
    have ef := e_fraction (n := p + ((srt xs).take (1 + j)).sum) (m := ((1 + j : Nat) : Int)) (by omega) (by rw [Int.natAbs_natCast]; exact Nat.lt_of_lt_of_le (show 1 + j < 2 ^ 5 by omega) (pow_le _ _ (by decide)))
    have ef' : t_fraction (.int (p + ((srt xs).take (1 + j)).sum)) (.int ((1 + j : Nat) : Int)) = tp (fr (Lm (srt xs) p (1 + j))) := ef
    simp only [p_tb, p_tbb, if_true, x_cut, x_int, d_unInt, p_tO, ct, sum_map, d_add, p_u2, ef']
  have cb := cut_but (List.range xs.length) (fun j => fr (Lm (srt xs) p (1 + j))) (by simpa using g1)
  rw [List.length_range, List.take_range, show min (xs.length - 1) xs.length = xs.length - 1 by omega] at cb
  have il : ixD (.lst ((List.range xs.length).map fun j => fr (Lm (srt xs) p (1 + j)))) (.int (-1)) = some (fr (Lm (srt xs) p xs.length)) := by
    rw [d_ixlastl (xs := List.range xs.length) (f := fun j => fr (Lm (srt xs) p (1 + j))) (by rw [ne_eq, List.range_eq_nil]; omega), List.getLast_eq_getElem, List.getElem_range, List.length_range, show 1 + (xs.length - 1) = xs.length by omega]
  have body : ∀ j, j < xs.length - 1 → t_is_less (fr ((((srt xs).getD (1 + j) 0 : Int)) : Rat)) (fr (Lm (srt xs) p (1 + j))) = tp (.bl (decide (((((srt xs).getD (1 + j) 0 : Int)) : Rat) < Lm (srt xs) p (1 + j)))) := fun j hj => by
    have hj2 : 1 + j < (srt xs).length := by omega
    have a : (srt xs).getD (1 + j) 0 = (srt xs)[1 + j] := by simp [List.getD, List.getElem?_eq_getElem hj2]
    have f := Lm_fx GS (by omega) p1 (m := 1 + j) (by omega) (by omega)
    refine e_is_less ((sm_fl ?_).mono (by decide)) (fx_sm9 f (by omega) (by omega) 2000 (by decide))
    rw [a]
    exact GS.ok _ (List.getElem_mem _)
  have ix : ∀ j, j < xs.length - 1 → ixD (.lst ((srt xs).map .int)) (.int ((1 + j : Nat) : Int)) = some (.int ((srt xs).getD (1 + j) 0)) := fun j hj => by
    rw [d_ixml (by omega)]
    simp [List.getD, List.getElem?_eq_getElem (show 1 + j < (srt xs).length by omega)]
  simp only [p_NX, p_tb, p_tbb, x_forX, x_Bf, x_cons, x_cut, x_int, x_1, d_neg, d_unInt, p_tO, cb, enum_rng, List.length_map, List.length_range, most_eq, show xs.length - 1 ≤ 100000 by omega, p_tA, p_tbA]
  by_cases c : M = xs.length
  · rw [forXL_goes _ ?go]
    case go =>
      intro d hd
      obtain ⟨j, hj, rfl⟩ := List.mem_map.mp hd
      have hj := List.mem_range.mp hj
      have b := body j hj
      rw [decide_eq_true (low (1 + j) (by omega) (by omega))] at b
      simp only [p_unTup2, p_tO, p_tb, p_tbb, p_tgCons, p_tgNil, x_if, x_ttNot, x_tru, x_cons, x_2, ix j hj, p_u1, p_u2, e_whole, b, d_trub, Bool.not_true, Bool.false_eq_true, if_false]
    simp only [p_tb, p_fin, x_2, x_1, d_neg, p_tbb, p_tO, il, c]
  · rw [rng_split (m := M - 1) (by omega), forXL_first _ _ _ ?go ?stop]
    case go =>
      intro d hd
      obtain ⟨j, hj, rfl⟩ := List.mem_map.mp hd
      have hj := List.mem_range.mp hj
      have b := body j (by omega)
      rw [decide_eq_true (low (1 + j) (by omega) (by omega))] at b
      simp only [p_unTup2, p_tO, p_tb, p_tbb, p_tgCons, p_tgNil, x_if, x_ttNot, x_tru, x_cons, x_2, ix j (by omega), p_u1, p_u2, e_whole, b, d_trub, Bool.not_true, Bool.false_eq_true, if_false]
    case stop =>
      have b := body (M - 1) (by omega)
      have i := ix (M - 1) (by omega)
      rw [show 1 + (M - 1) = M by omega] at b i
      have no : ¬ ((((srt xs).getD M 0 : Int)) : Rat) < Lm (srt xs) p M := st.resolve_left c
      rw [decide_eq_false no] at b
      rw [show 1 + (M - 1) = M by omega]
      simp only [p_unTup2, p_tO, p_tb, p_tbb, p_tgCons, p_tgNil, x_if, x_ttNot, x_tru, x_cons, x_2, i, p_u1, p_u2, e_whole, b, d_trub, Bool.not_false, if_true]
      rfl
    simp only [p_tb, p_finr]
theorem num_pos6 (q : Rat) : decide (q.num > 0) = decide (0 < q) := by
  refine decide_eq_decide.mpr ⟨fun h => ?_, fun h => ?_⟩
  · have := Rat.num_nonneg.mp (Int.le_of_lt h)
    rcases Rat.le_iff_lt_or_eq.mp this with c | c
    · exact c
    · rw [← c] at h
      exact absurd h (by decide)
  · have a := Rat.num_nonneg.mpr (Rat.le_of_lt h)
    have b : q.num ≠ 0 := fun z => by
      have := Rat.num_eq_zero.mp z
      rw [this] at h
      exact Rat.lt_irrefl h
    omega
theorem e_depth {x : Int} {h : Rat} (hx : -9999 ≤ x ∧ x ≤ 9999) (hh : Sm 100 h) : t_depth_at (.int x) (fr h) = tp (fr (dep x h)) := by
  have l := e_less (hh.mono (j := 2000) (by decide)) ((sm_fl hx).mono (j := 2000) (by decide))
  have n := num_pos6 (h - (x : Rat))
  simp only [t_depth_at, x_cons, p_u1, p_u2, p_tb, p_tbb, e_whole, l, x_if, x_MT, x_2, d_fr0, d_gt, p_tO, n, d_unBl]
  unfold dep
  by_cases c : (x : Rat) < h
  · rw [if_pos c, decide_eq_true (show 0 < h - (x : Rat) by grind), if_pos rfl]
  · rw [if_neg c, decide_eq_false (show ¬ 0 < h - (x : Rat) by grind)]
    rfl
theorem e_floor {x : Int} (h : -9999 ≤ x ∧ x ≤ 9999) : t_is_floor (.int x) = tp (.bl true) := by
  simp [t_is_floor, e_is_between, h.1, h.2]
theorem e_first_floor (G : Flo xs) : t_first_wrong__is_floor (.tup (xs.map .int)) (.int 1) (.int 9) (.dfn "is_floor") = tp (.lst []) := by
  have hf := first_ok (t := t_is_floor) (xs := xs) (enc := .int) fun x hx => e_floor (G.ok x hx)
  have hl : xs.length ≤ 100000 := by have := G.nine; omega
  have h1 : (1 : Int) ≤ (xs.length : Int) := by have := G.one; omega
  have h2 : (xs.length : Int) ≤ 9 := by have := G.nine; omega
  simp [t_first_wrong__is_floor, h1, h2, d_enum, enum_len, hl, hf, cut_nil]
theorem e_check_floors (G : Flo xs) : t_check_floors (.tup (xs.map .int)) = tp .non := by
  simp [t_check_floors, e_first_floor G]
  rfl
theorem e_check_flood (G : Flo xs) (p0 : 0 ≤ p) (p1 : p ≤ 9999) : t_check_flood (.tup (xs.map .int)) (.int p) = tp .non := by
  simp [t_check_flood, e_check_floors G, t_check_number, e_is_between, p0, p1]
theorem pour_sum (h : Rat) : ∀ xs : List Int, (xs.map fun x => dep x h).sum = pour xs h
  | [] => rfl
  | x :: xs => by rw [List.map_cons, List.sum_cons, pour_sum h xs]; rfl
theorem lvl_nil (G : Flo xs) : Lvl xs 0 (-9999) := by
  refine ⟨pour_none xs fun x hx => ?_, 1, by omega, by omega, by omega, -9999, by decide +kernel, by omega⟩
  have := (G.ok x hx).1
  have : ((-9999 : Int) : Rat) ≤ (x : Rat) := Rat.intCast_le_intCast.mpr this
  have e : ((-9999 : Int) : Rat) = -9999 := by decide +kernel
  rw [e] at this
  exact Rat.not_lt.mpr this
theorem Lvl.sm {h : Rat} (L : Lvl xs p h) : Sm 100 h := by
  obtain ⟨m, m1, m9, f⟩ := L.fx
  exact fx_sm9 f m9 (by omega) 100 (by decide)
/-- just one answer -/
theorem Lvl.one {h h' : Rat} (L : Lvl xs p h) (L' : Lvl xs p h') : ∀ x ∈ xs, dep x h = dep x h' := dep_same (L.is.trans L'.is.symm)
end
end FL
namespace FL
open PySem PySem.Spec L2
section
variable {xs : List Int} {p : Int} {E : XP}
theorem e_plus6 {a b : Rat} (ha : Sm 240 a) (hb : Sm 240 b) : t__law_plus (fr a) (fr b) = tp (fr (a + b)) := by
  have d := dens ha hb
  have := e_part6 (n := a.num * b.den + b.num * a.den) d.1 (Nat.lt_of_lt_of_le d.2 (pow_le _ _ (by decide)))
  rw [add_fr] at this
  simp [t__law_plus, mul_sm ha.1 (den_sm hb), mul_sm hb.1 (den_sm ha), mul_sm (den_sm ha) (den_sm hb), this]
theorem e_waters_by (G : Flo xs) (p0 : 0 ≤ p) (p1 : p ≤ 9999) : ∃ h, t_waters_by (.tup (xs.map .int)) (.int p) = tp (.tup (xs.map fun x => fr (dep x h))) ∧ Lvl xs p h := by
  have g9 := G.nine
  by_cases z : p = 0
  · subst z
    have L := lvl_nil G
    refine ⟨_, ?_, L⟩
    have dz : ∀ x ∈ xs, dep x (-9999) = 0 := fun x hx => by
      have := (G.ok x hx).1
      have : ((-9999 : Int) : Rat) ≤ (x : Rat) := Rat.intCast_le_intCast.mpr this
      have e : ((-9999 : Int) : Rat) = -9999 := by decide +kernel
      rw [e] at this
      unfold dep
      rw [if_neg (Rat.not_lt.mpr this)]
    have lv : t_flood_level_by (.tup (xs.map .int)) (.int 0) = tp .non := by
      simp only [t_flood_level_by, x_if, x_MT, x_2, p_tb, p_tbb, d_eqi, decide_true, p_tO, d_unBl, if_true]
    have nn : notNoneD .non .non = some (.bl false) := rfl
    simp only [t_waters_by, x_cons, p_tb, p_tbb, p_u2, lv, x_Bf, x_fz, x_comp, x_row, d_row, p_tO, List.length_map, most_eq, show xs.length ≤ 100000 by omega, p_tA, p_tbA]
    rw [compL_map D.int (fun x => fr (dep x (-9999))) _ _ _ xs ?g]
    case g =>
      intro x hx
      simp only [p_tb, if_true, x_if, x_MT, x_2, p_tbb, nn, p_tO, d_unBl, Bool.false_eq_true, if_false, dz x hx]
      rfl
    simp only [p_NX, p_tb, d_tupB, p_tO]
  · obtain ⟨h, e, L⟩ := e_level G (by omega) p1
    refine ⟨h, ?_, L⟩
    have nn : notNoneD (fr h) .non = some (.bl true) := rfl
    simp only [t_waters_by, x_cons, p_tb, p_tbb, p_u2, e, x_Bf, x_fz, x_comp, x_row, d_row, p_tO, List.length_map, most_eq, show xs.length ≤ 100000 by omega, p_tA, p_tbA]
    rw [compL_map D.int (fun x => fr (dep x h)) _ _ _ xs ?g]
    case g =>
      intro x hx
      simp only [p_tb, if_true, x_if, x_MT, x_2, p_tbb, nn, p_tO, d_unBl, if_true, x_cons, p_u2, e_depth (G.ok x hx) L.sm]
    simp only [p_NX, p_tb, d_tupB, p_tO]
theorem e_waters (G : Flo xs) (p0 : 0 ≤ p) (p1 : p ≤ 9999) : ∃ h, t_waters (.tup (xs.map .int)) (.int p) = tp (.tup (xs.map fun x => fr (dep x h))) ∧ Lvl xs p h := by
  obtain ⟨h, e, L⟩ := e_waters_by G p0 p1
  exact ⟨h, by simp [t_waters, e_check_flood G p0 p1, e], L⟩
/-- for any that is a level of it -/
theorem e_waters_of (G : Flo xs) (p0 : 0 ≤ p) (p1 : p ≤ 9999) {h : Rat} (L : Lvl xs p h) : t_waters (.tup (xs.map .int)) (.int p) = tp (.tup (xs.map fun x => fr (dep x h))) := by
  obtain ⟨h', e, L'⟩ := e_waters G p0 p1
  rw [e]
  congr 2
  exact List.map_congr_left fun x hx => by rw [L'.one L x hx]
/-! the law's own -/
theorem e_lwaters (G : Flo xs) (p0 : 0 ≤ p) (p1 : p ≤ 9999) : ∃ h, t__law_waters (.tup (xs.map .int)) (.int p) = tp (.tup [.tup (xs.map fun x => fr (dep x h)), if p = 0 then .non else fr h]) ∧ Lvl xs p h := by
  have g9 := G.nine
  have g1 := G.one
  by_cases z : p = 0
  · subst z
    have L := lvl_nil G
    refine ⟨_, ?_, L⟩
    have dz : ∀ x ∈ xs, dep x (-9999) = 0 := fun x hx => by
      have := (G.ok x hx).1
      have : ((-9999 : Int) : Rat) ≤ (x : Rat) := Rat.intCast_le_intCast.mpr this
      have e : ((-9999 : Int) : Rat) = -9999 := by decide +kernel
      rw [e] at this
      unfold dep
      rw [if_neg (Rat.not_lt.mpr this)]
    simp only [t__law_waters, x_if, x_MT, x_2, p_tb, p_tbb, d_eqi, decide_true, p_tO, d_unBl, if_true, x_tup, x_cons, x_Bf, x_fz, x_comp, x_row, d_row, List.length_map, most_eq, show xs.length ≤ 100000 by omega, p_tA, p_tbA]
    rw [compL_map D.int (fun x => fr (dep x (-9999))) _ _ _ xs ?g]
    case g =>
      intro x hx
      simp only [p_tb, if_true, List.length_cons, List.length_nil, Nat.zero_add, Nat.reduceAdd, Nat.reduceLeDiff, most_eq, p_tA, p_tbA, dz x hx]
      rfl
    simp only [p_NX, p_tb, d_tupB, p_tO, List.length_cons, List.length_nil, Nat.zero_add, Nat.reduceAdd, Nat.reduceLeDiff, most_eq, p_tA, p_tbA]
  · have hn := srt_len xs
    have GS := G.srt
    have p0 : 0 < p := by omega
    obtain ⟨M, m1, mn, st, nb⟩ := first_stop (fun m => m = xs.length ∨ ¬ ((((srt xs).getD m 0 : Int)) : Rat) < Lm (srt xs) p m) xs.length g1 (.inl rfl)
    have low : ∀ j, 1 ≤ j → j < M → ((((srt xs).getD j 0 : Int)) : Rat) < Lm (srt xs) p j := fun j a b => by
      by_cases c : ((((srt xs).getD j 0 : Int)) : Rat) < Lm (srt xs) p j
      · exact c
      · exact absurd (.inr c) (nb j a b)
    have pl := stop_level p0 (srt_sorted xs) m1 (by omega) low (by rw [hn]; exact st)
    have L : Lvl xs p (Lm (srt xs) p M) := ⟨by rw [← pour_perm _ (srt_perm xs)]; exact pl, M, m1, by omega, Lm_fx GS (by omega) p1 m1 (by omega)⟩
    refine ⟨Lm (srt xs) p M, ?_, L⟩
    have r2 : range2 [.int 1, .int ((xs.length : Int) + 1)] = some ((List.range xs.length).map fun j : Nat => .int ((1 + j : Nat) : Int)) := by
      have := d_range2 (p := 1) (n := xs.length + 1) (by omega) (by omega)
      exact this
    have lel : lenB [.lst ((srt xs).map .int)] = some (.int (xs.length : Int)) := by rw [d_lenl, List.length_map, hn]
    have part : ∀ j, j < xs.length → t__law_part (.int (p + ((srt xs).take (1 + j)).sum)) (.int ((1 + j : Nat) : Int)) = tp (fr (Lm (srt xs) p (1 + j))) := fun j hj =>
      e_part6 (n := p + ((srt xs).take (1 + j)).sum) (m := ((1 + j : Nat) : Int)) (by omega) (by rw [Int.natAbs_natCast]; exact Nat.lt_of_lt_of_le (show 1 + j < 2 ^ 5 by omega) (pow_le _ _ (by decide)))
    have bel : ∀ j, j + 1 < xs.length → t__law_is_below (fr ((((srt xs).getD (1 + j) 0 : Int)) : Rat)) (fr (Lm (srt xs) p (1 + j))) = tp (.bl (decide (((((srt xs).getD (1 + j) 0 : Int)) : Rat) < Lm (srt xs) p (1 + j)))) := fun j hj => by
      have hj2 : 1 + j < (srt xs).length := by omega
      have a : (srt xs).getD (1 + j) 0 = (srt xs)[1 + j] := by simp [List.getD, List.getElem?_eq_getElem hj2]
      have f := Lm_fx GS (by omega) p1 (m := 1 + j) (by omega) (by omega)
      refine e_below6 ((sm_fl ?_).mono (by decide)) (fx_sm9 f (by omega) (by omega) 2000 (by decide))
      rw [a]
      exact GS.ok _ (List.getElem_mem _)
    have ix : ∀ j, j + 1 < xs.length → ixD (.lst ((srt xs).map .int)) (.int ((1 + j : Nat) : Int)) = some (.int ((srt xs).getD (1 + j) 0)) := fun j hj => by
      rw [d_ixml (by omega)]
      simp [List.getD, List.getElem?_eq_getElem (show 1 + j < (srt xs).length by omega)]
    have ct : ∀ j, j < xs.length → cutD (.lst ((srt xs).map .int)) none (some ((1 + j : Nat) : Int)) = some (.lst (((srt xs).take (1 + j)).map .int)) := fun j hj => cut_tol (srt xs) .int (h := 1 + j) (by omega)
    simp only [t__law_waters, x_if, x_MT, x_2, p_tb, p_tbb, d_eqi, decide_eq_false z, p_tO, d_unBl, Bool.false_eq_true, if_false, x_fz, x_Bf, x_cons, d_sort_tup, x_forX, lel, d_add, r2, List.length_map, List.length_range, most_eq, show xs.length ≤ 100000 by omega, p_tA, p_tbA]
    rw [rng_split (m := M - 1) (by omega), forXL_first _ _ _ ?go ?stop]
    case go =>
      intro d hd
      obtain ⟨j, hj, rfl⟩ := List.mem_map.mp hd
      have hj := List.mem_range.mp hj
      have b := bel j (by omega)
      rw [decide_eq_true (low (1 + j) (by omega) (by omega))] at b
      have ne : ¬ ((1 + j : Nat) : Int) = (xs.length : Int) := by omega
      simp only [p_tO, p_tb, p_tbb, x_cut, x_int, d_unInt, ct j (by omega), sum_map, d_add, p_u2, part j (by omega), x_ttOr, d_eqi, decide_eq_false ne, d_unBl, Bool.false_eq_true, if_false, x_ttNot, x_tru, x_tup, x_cons, ix j (by omega), List.length_cons, List.length_nil, Nat.zero_add, Nat.reduceAdd, Nat.reduceLeDiff, most_eq, p_tA, p_tbA, fr_int', b, d_trub, Bool.not_true]
    case stop =>
      have pM := part (M - 1) (by omega)
      have cM := ct (M - 1) (by omega)
      rw [show 1 + (M - 1) = M by omega] at pM cM
      rw [show 1 + (M - 1) = M by omega]
      have cond : (if decide (((M : Nat) : Int) = (xs.length : Int)) = true then tp true else tb (tO (ixD (.lst ((srt xs).map .int)) (.int (M : Int)))) fun a => tb (t__law_is_below (.tup [a, .int 1]) (fr (Lm (srt xs) p M))) fun a => tb (tO (truB a)) fun k => tp (!k)) = tp true := by
        by_cases c : M = xs.length
        · rw [decide_eq_true (show ((M : Nat) : Int) = (xs.length : Int) by omega), if_pos rfl]
        · have b := bel (M - 1) (by omega)
          have i := ix (M - 1) (by omega)
          rw [show 1 + (M - 1) = M by omega] at b i
          rw [decide_eq_false (st.resolve_left c)] at b
          rw [decide_eq_false (show ¬ ((M : Nat) : Int) = (xs.length : Int) by omega)]
          simp only [Bool.false_eq_true, if_false, i, p_tO, p_tb, fr_int', b, d_trub, Bool.not_false]
      simp only [p_tO, p_tb, p_tbb, x_cut, x_int, d_unInt, cM, sum_map, d_add, p_u2, pM, x_ttOr, d_eqi, d_unBl, x_ttNot, x_tru, x_tup, x_cons, List.length_cons, List.length_nil, Nat.zero_add, Nat.reduceAdd, Nat.reduceLeDiff, most_eq, p_tA, p_tbA]
      rw [cond]
      simp only [p_tb, p_tbb, if_true, x_Bf, x_cons, x_fz, x_comp, x_row, d_row, p_tO, List.length_map, most_eq, show xs.length ≤ 100000 by omega, p_tA, p_tbA, x_tup]
      rw [compL_map D.int (fun x => fr (dep x (Lm (srt xs) p M))) _ _ _ xs ?g]
      case g =>
        intro x hx
        have sx := sm_fl (G.ok x hx)
        have b := e_below6 (sx.mono (j := 2000) (by decide)) (L.sm.mono (j := 2000) (by decide))
        have l := e_less6 (L.sm.mono (j := 240) (by decide)) (sx.mono (j := 240) (by decide))
        simp only [p_tb, p_tbb, if_true, List.length_cons, List.length_nil, Nat.zero_add, Nat.reduceAdd, Nat.reduceLeDiff, most_eq, p_tA, p_tbA, fr_int', x_if, x_tru, p_u2, b, d_trub, p_tO, l]
        unfold dep
        by_cases c : (x : Rat) < Lm (srt xs) p M
        · rw [if_pos (decide_eq_true c), if_pos c, p_tb]
        · rw [if_neg (by rw [decide_eq_false c]; exact Bool.false_ne_true), if_neg c, p_tb]
          rfl
      simp only [p_NX, p_tb, p_tbb, d_tupB, p_tO, List.length_cons, List.length_nil, Nat.zero_add, Nat.reduceAdd, Nat.reduceLeDiff, most_eq, p_tA, p_tbA]
      rfl
    simp only [p_tb, p_finr, z, if_false]
theorem e_lwaters_of (G : Flo xs) (p0 : 0 ≤ p) (p1 : p ≤ 9999) {h : Rat} (L : Lvl xs p h) : t__law_waters (.tup (xs.map .int)) (.int p) = tp (.tup [.tup (xs.map fun x => fr (dep x h)), if p = 0 then .non else fr h]) := by
  obtain ⟨h', e, L'⟩ := e_lwaters G p0 p1
  rw [e]
  have m : (xs.map fun x => fr (dep x h')) = xs.map fun x => fr (dep x h) := List.map_congr_left fun x hx => by rw [L'.one L x hx]
  rw [m]
  by_cases z : p = 0
  · rw [if_pos z, if_pos z]
  · have : h' = h := level_one (L'.is.trans L.is.symm) (by
      rw [L'.is]
      have : ((0 : Int) : Rat) < (p : Rat) := Rat.intCast_lt_intCast.mpr (by omega)
      exact this)
    rw [this]
end
end FL
namespace FL
open PySem PySem.Spec L2
section
variable {xs : List Int} {p : Int} {E : XP}
theorem e_ltotal {N M : Nat} {rs : List Rat} (h : ∀ x ∈ rs, Fx N M x) (h0 : 0 < N) (hN : N < 2 ^ 200) (hM : rs.length * M < 2 ^ 200) (hl : rs.length ≤ 1000) (e : D) (he : rowD e = some (rs.map fr)) : t__law_total e = tp (fr rs.sum) := by
  have key := forL_foldI (enc := fr) (es := fr) (f := (· + ·)) (fun xs s => xs.length ≤ rs.length ∧ Fx N ((rs.length - xs.length) * M) s ∧ ∀ x ∈ xs, Fx N M x)
    (fun d s1 => t__law_plus s1 d) rs 0 (fun x xs s ⟨i1, i2, i3⟩ => ?_) ⟨Nat.le_refl _, ?_, h⟩
  · have h1 : rs.length ≤ 100000 := by omega
    have h2 : (D.tup [.int 0, .int 1]) = fr 0 := rfl
    simp only [t__law_total, x_tup, x_cons, p_tb, p_tbb, List.length_cons, List.length_nil, Nat.zero_add, Nat.reduceAdd, Nat.reduceLeDiff, most_eq, p_tA, p_tbA, x_for, x_row, he, p_tO, List.length_map, h1, h2, p_u2, p_tbr]
    rw [key, foldl_sum, Rat.zero_add]
  · rw [List.length_cons] at i1 i2
    have hx := i3 x (List.mem_cons_self ..)
    have b1 : (rs.length - (xs.length + 1)) * M ≤ rs.length * M := Nat.mul_le_mul_right _ (by omega)
    have b2 : 1 * M ≤ rs.length * M := Nat.mul_le_mul_right _ (by omega)
    have pw : (2 : Nat) ^ 200 ≤ 2 ^ 240 := pow_le _ _ (by decide)
    generalize (2 : Nat) ^ 200 = z at hN hM pw
    refine ⟨?_, by omega, ?_, fun y hy => i3 y (List.mem_cons_of_mem _ hy)⟩
    · rw [e_plus6 (i2.sm (by omega) (by omega)) (hx.sm (by omega) (by omega))]
    · have := i2.add hx
      rw [show (rs.length - (xs.length + 1)) * M + M = (rs.length - xs.length) * M by rw [show rs.length - xs.length = rs.length - (xs.length + 1) + 1 by omega, Nat.succ_mul]] at this
      exact this
  · rw [Nat.sub_self, Nat.zero_mul]
    exact ⟨h0, 0, by rw [Rat.zero_divInt], by simp⟩
theorem fx_dep {m : Nat} {x : Int} {h : Rat} (m1 : 1 ≤ m) (m9 : m ≤ 9) (f : Fx m 200000 h) (hx : -9999 ≤ x ∧ x ≤ 9999) : Fx m 400000 (dep x h) := by
  unfold dep
  have a := (Fx.int (N := m) (by omega) x).up (M' := 200000) (by
    have : m * x.natAbs ≤ 9 * 9999 := Nat.mul_le_mul m9 (by omega)
    omega)
  split
  · exact f.sub a
  · exact ⟨by omega, 0, by rw [Rat.zero_divInt], by simp⟩
theorem ints_ex {p : Int → Prop} : ∀ {l : List D}, (∀ y ∈ l, ∃ i : Int, y = .int i ∧ p i) → ∃ xs : List Int, l = xs.map .int ∧ ∀ x ∈ xs, p x
  | [], _ => ⟨[], rfl, fun _ h => (by cases h)⟩
  | d :: l, h => by
    obtain ⟨i, rfl, hi⟩ := h d (List.mem_cons_self ..)
    obtain ⟨xs, rfl, hx⟩ := ints_ex fun y hy => h y (List.mem_cons_of_mem _ hy)
    exact ⟨i :: xs, rfl, fun x hx' => by
      rcases List.mem_cons.mp hx' with rfl | hx'
      · exact hi
      · exact hx x hx'⟩
theorem n_floors {P : D → Prop} (hP : ∀ xs, Flo xs → P (.tup (xs.map .int))) : t__law_floors (.int 9) P E := by
  simp only [t__law_floors, x_tup, x_cons, x_2, p_tb, p_tbb, List.length_cons, List.length_nil, Nat.zero_add, Nat.reduceAdd, Nat.reduceLeDiff, most_eq, p_tA, p_tbA, p_u1]
  rw [h_tb]
  refine n_of (by decide) (by decide) fun d hd => ?_
  obtain ⟨g, rfl, g0, g1⟩ : ∃ w : Int, d = .int w ∧ 3 ≤ w ∧ w ≤ 9999 := by
    simp only [List.mem_cons, List.not_mem_nil, or_false] at hd
    rcases hd with rfl | rfl | rfl
    · exact ⟨3, rfl, by omega, by omega⟩
    · exact ⟨9, rfl, by omega, by omega⟩
    · exact ⟨9999, rfl, by omega, by omega⟩
  simp only [x_Bf, x_cons, x_fz, x_comp, x_2, p_tb, p_tbb, p_u1, k_take]
  refine ⟨by omega, by omega, fun u u0 u1 => ?_⟩
  obtain ⟨n, e⟩ : ∃ n : Nat, 1 + u = (n : Int) := ⟨(1 + u).toNat, by omega⟩
  have eg := mul_i (x := 2) (y := g) (by decide) (by omega)
  simp only [d_add, e, p_tO, p_tb, d_range1 (show n ≤ 1000000 by omega), List.length_map, List.length_range, most_eq, show n ≤ 100000 by omega, p_tA, p_tbA]
  rw [h_tbNX]
  refine compL_any (R := fun y => ∃ i : Int, y = .int i ∧ -9999 ≤ i ∧ i ≤ 9999) _ _ _ _ (fun d hd P2 hP2 => ?_) (fun l hl hr => ?_)
  · simp only [p_tb, p_tbb, eg, d_add, p_tO, k_take]
    refine ⟨by omega, by omega, fun t t0 t1 => ?_⟩
    simp only [d_sub, p_tO, h_tp]
    exact hP2 _ ⟨_, rfl, by omega, by omega⟩
  · obtain ⟨xs, rfl, hx⟩ := ints_ex hr
    rw [List.length_map, List.length_map, List.length_range] at hl
    simp only [p_tb, d_tupB, p_tO, h_tp]
    exact hP xs ⟨by omega, by omega, hx⟩
theorem pick {σ : Type} {A B : TM σ} {K : σ → TM D} {P : D → Prop} (v : σ) (hA : A = tp v) (hB : B = tp v) (hK : K v P E) : tb (tIf (tMT (tb (u1 t__law_take [.int 2]) fun d => tO (eqD d (.int 0)))) A B) K P E := by
  rw [hA, hB]
  simp only [x_if, x_MT, p_u1, p_tbb, k_take]
  refine ⟨by omega, by omega, fun t t0 t1 => ?_⟩
  simp only [d_eqi, p_tO, p_tb, d_unBl]
  by_cases z : t = 0
  · simp only [z, decide_true, if_true, p_tb]
    exact hK
  · simp only [z, decide_false, Bool.false_eq_true, if_false, p_tb]
    exact hK
theorem any_f {α : Type} (l : List α) : anyB [.lst (l.map fun _ => .bl false)] = some (.bl false) := by
  have := any_map (l.map fun _ => false)
  rw [List.map_map] at this
  rw [show (l.map fun _ => D.bl false) = l.map (D.bl ∘ fun _ => false) from rfl, this]
  congr 2
  clear this
  induction l with
  | nil => rfl
  | cons a l ih => exact ih
theorem ord10' (a b : D) : ordL [1, 0] [a, b] = [b, a] := rfl
theorem gB_tup (n : Nat) {ds : List D} (h : ds.length ≤ 1000) (hd : ∀ d ∈ ds, gB n d = true) : gB (n + 1) (.tup ds) = true := by
  show (decide (ds.length ≤ 1000) && ds.all (gB n)) = true
  rw [Bool.and_eq_true, decide_eq_true_eq]
  exact ⟨h, List.all_eq_true.mpr hd⟩
theorem told_same {h : Rat} (G : Flo xs) : t__law_same 10 (.tup (xs.map fun x => fr (dep x h))) (.tup (xs.map fun x => fr (dep x h))) = tp (.bl true) := by
  refine e_same6 10 _ (gB_tup 9 (by rw [List.length_map]; have := G.nine; omega) fun d hd => ?_)
  obtain ⟨x, _, rfl⟩ := List.mem_map.mp hd
  rfl
def flr (xs : List Int) (k : Nat) : Int := xs.getD k 0
theorem flr_ix {k : Nat} (h : k < xs.length) : ixD (.tup (xs.map .int)) (.int (k : Int)) = some (.int (flr xs k)) := by
  rw [d_ixm h]
  unfold flr
  simp [List.getD, List.getElem?_eq_getElem h]
theorem flr_mem {k : Nat} (h : k < xs.length) : flr xs k ∈ xs := by
  unfold flr
  have : xs.getD k 0 = xs[k] := by simp [List.getD, List.getElem?_eq_getElem h]
  rw [this]
  exact List.getElem_mem _
theorem told_ix {f : Int → D} {k : Nat} (h : k < xs.length) : ixD (.tup (xs.map f)) (.int (k : Int)) = some (f (flr xs k)) := by
  rw [d_ixm h]
  unfold flr
  simp [List.getD, List.getElem?_eq_getElem h]
theorem map_flr {α : Type} (f : Int → α) : xs.map f = (List.range xs.length).map fun k => f (flr xs k) := by
  refine List.ext_getElem (by simp) fun i h1 h2 => ?_
  have h3 : i < xs.length := by simpa using h1
  rw [List.getElem_map, List.getElem_map, List.getElem_range]
  unfold flr
  simp [List.getD, List.getElem?_eq_getElem h3]
end
end FL
namespace FL
open PySem PySem.Spec L2
section
variable {xs : List Int} {p : Int} {q : Rat} {E : XP}
/-! levels, and what is poured for a height -/
structure Hq (q : Rat) : Prop where
  fx : ∃ N : Nat, 1 ≤ N ∧ N ≤ 20 ∧ Fx N 1000000 q
theorem Lvl.hq {h : Rat} (L : Lvl xs p h) : Hq h := by
  obtain ⟨m, m1, m9, f⟩ := L.fx
  exact ⟨m, m1, by omega, f.up (by omega)⟩
theorem Hq.sm (H : Hq q) : Sm 100 q := by
  obtain ⟨N, n1, n2, f⟩ := H.fx
  exact f.sm (Nat.lt_of_lt_of_le (show N < 2 ^ 30 by omega) (pow_le _ _ (by decide))) (Nat.lt_of_lt_of_le (show 1000000 < 2 ^ 30 by omega) (pow_le _ _ (by decide)))
theorem Hq.dep (H : Hq q) (G : Flo xs) : ∃ N : Nat, 1 ≤ N ∧ N ≤ 20 ∧ ∀ x ∈ xs, Fx N 2000000 (FL.dep x q) ∧ Fx N 2000000 (q - (x : Rat)) := by
  obtain ⟨N, n1, n2, f⟩ := H.fx
  refine ⟨N, n1, n2, fun x hx => ?_⟩
  have g := G.ok x hx
  have a := (Fx.int (N := N) (by omega) x).up (M' := 1000000) (by
    have : N * x.natAbs ≤ 20 * 9999 := Nat.mul_le_mul n2 (by omega)
    omega)
  refine ⟨?_, f.sub a⟩
  unfold FL.dep
  split
  · exact f.sub a
  · exact ⟨by omega, 0, by rw [Rat.zero_divInt], by simp⟩
theorem e_flood_0 (G : Flo xs) : t_flood_level (.tup (xs.map .int)) (.int 0) = tp .non := by
  simp [t_flood_level, e_check_flood G (p := 0) (by omega) (by omega), t_flood_level_by]
theorem e_flood_of (G : Flo xs) (p0 : 0 < p) (p1 : p ≤ 9999) {h : Rat} (L : Lvl xs p h) : t_flood_level (.tup (xs.map .int)) (.int p) = tp (fr h) := by
  obtain ⟨h', e, L'⟩ := e_level G p0 p1
  have : h' = h := level_one (L'.is.trans L.is.symm) (by
    rw [L'.is]
    have : ((0 : Int) : Rat) < (p : Rat) := Rat.intCast_lt_intCast.mpr p0
    exact this)
  rw [this] at e
  simp [t_flood_level, e_check_flood G (p := p) (by omega) p1, e]
theorem e_poured (G : Flo xs) (H : Hq q) : t_poured_for (.tup (xs.map .int)) (fr q) = tp (fr (pour xs q)) := by
  have g9 := G.nine
  obtain ⟨N, n1, n2, fx⟩ := H.dep G
  have cf := e_check_fraction q
  have tot := e_total (N := N) (M := 2000000) (rs := xs.map fun x => dep x q) (fun r hr => by
    obtain ⟨x, hx, rfl⟩ := List.mem_map.mp hr
    exact (fx x hx).1) (by omega) (Nat.lt_of_lt_of_le (show N < 2 ^ 30 by omega) (pow_le _ _ (by decide))) (by rw [List.length_map]; exact Nat.lt_of_lt_of_le (show xs.length * 2000000 < 2 ^ 30 by omega) (pow_le _ _ (by decide))) (by rw [List.length_map]; omega)
  rw [pour_sum] at tot
  simp only [t_poured_for, x_cons, p_tb, p_tbb, p_u1, p_u2, e_check_floors G, cf, t_poured_for_by, x_fz, x_comp, x_row, d_row, p_tO, List.length_map, most_eq, show xs.length ≤ 100000 by omega, p_tA, p_tbA]
  rw [compL_map D.int (fun x => fr (dep x q)) _ _ _ xs ?g1]
  case g1 =>
    intro x hx
    simp only [p_tb, p_tbb, if_true, e_depth (G.ok x hx) H.sm]
  have m : xs.map (fun x => fr (dep x q)) = (xs.map fun x => dep x q).map fr := by rw [List.map_map]; rfl
  simp only [p_NX, p_tb, m, tot]
def over (q : Rat) : List Int → List Rat
  | [] => []
  | x :: xs => if (x : Rat) < q then (q - x) :: over q xs else over q xs
theorem over_sum (q : Rat) : ∀ xs, (over q xs).sum = pour xs q
  | [] => rfl
  | x :: xs => by
    show (if (x : Rat) < q then (q - x) :: over q xs else over q xs).sum = dep x q + pour xs q
    unfold dep
    split
    · rw [List.sum_cons, over_sum q xs]
    · rw [over_sum q xs, Rat.zero_add]
theorem over_mem (q : Rat) : ∀ (xs : List Int) (r : Rat), r ∈ over q xs → ∃ x ∈ xs, r = q - (x : Rat)
  | [], r, h => by cases h
  | x :: xs, r, h => by
    have h : r ∈ (if (x : Rat) < q then (q - x) :: over q xs else over q xs) := h
    split at h
    · rcases List.mem_cons.mp h with rfl | h
      · exact ⟨x, List.mem_cons_self, rfl⟩
      · obtain ⟨y, hy, e⟩ := over_mem q xs r h
        exact ⟨y, List.mem_cons_of_mem _ hy, e⟩
    · obtain ⟨y, hy, e⟩ := over_mem q xs r h
      exact ⟨y, List.mem_cons_of_mem _ hy, e⟩
theorem over_len (q : Rat) : ∀ xs, (over q xs).length ≤ xs.length
  | [] => Nat.le_refl _
  | x :: xs => by
    have := over_len q xs
    show (if (x : Rat) < q then (q - x) :: over q xs else over q xs).length ≤ xs.length + 1
    split
    · rw [List.length_cons]; omega
    · omega
theorem over_fm (q : Rat) : ∀ xs : List Int, xs.filterMap (fun x : Int => if decide ((x : Rat) < q) then some (fr (q - x)) else none) = (over q xs).map fr
  | [] => rfl
  | x :: xs => by
    show _ = (if (x : Rat) < q then (q - x) :: over q xs else over q xs).map fr
    rw [List.filterMap_cons]
    by_cases c : (x : Rat) < q
    · rw [if_pos c, if_pos (decide_eq_true c), List.map_cons]
      show fr (q - x) :: _ = _
      rw [over_fm q xs]
    · rw [if_neg c, if_neg (by rw [decide_eq_false c]; exact Bool.false_ne_true)]
      exact over_fm q xs
theorem e_lpoured (G : Flo xs) (H : Hq q) : t__law_poured_for (.tup (xs.map .int)) (fr q) = tp (fr (pour xs q)) := by
  have g9 := G.nine
  have ol := over_len q xs
  obtain ⟨N, n1, n2, fx⟩ := H.dep G
  have tot := e_ltotal (N := N) (M := 2000000) (rs := over q xs) (fun r hr => by
    obtain ⟨x, hx, rfl⟩ := over_mem q xs r hr
    exact (fx x hx).2) (by omega) (Nat.lt_of_lt_of_le (show N < 2 ^ 30 by omega) (pow_le _ _ (by decide))) (Nat.lt_of_lt_of_le (show (over q xs).length * 2000000 < 2 ^ 30 by omega) (pow_le _ _ (by decide))) (by omega) (.lst ((over q xs).map fr)) (d_rowl _)
  rw [over_sum] at tot
  simp only [t__law_poured_for, x_cons, p_tb, p_tbb, p_u1, p_u2, x_fz, x_comp, x_row, d_row, p_tO, List.length_map, most_eq, show xs.length ≤ 100000 by omega, p_tA, p_tbA]
  rw [compL_fm (enc := D.int) (g := fun x : Int => if decide ((x : Rat) < q) then some (fr (q - x)) else none) _ _ _ xs ?g1, over_fm]
  case g1 =>
    intro x hx
    have b := e_below6 ((sm_fl (G.ok x hx)).mono (j := 2000) (by decide)) (H.sm.mono (j := 2000) (by decide))
    have l := e_less6 (H.sm.mono (j := 240) (by decide)) ((sm_fl (G.ok x hx)).mono (j := 240) (by decide))
    simp only [p_tb, p_tbb, x_tru, x_tup, x_cons, List.length_cons, List.length_nil, Nat.zero_add, Nat.reduceAdd, Nat.reduceLeDiff, most_eq, p_tA, p_tbA, fr_int', p_u2, b, d_trub, p_tO, l]
    cases decide ((x : Rat) < q) <;> rfl
  simp only [p_NX, p_tb, tot]
theorem min_tup {ns : List Int} (h : ns ≠ []) : ∃ m, minB [.tup (ns.map .int)] = some (.int m) ∧ m ∈ ns ∧ ∀ y ∈ ns, m ≤ y := by
  cases ns with
  | nil => exact (h rfl).elim
  | cons i r =>
    have e : minL (i :: r) = some (r.foldl min i) := rfl
    have := minL_mem e
    refine ⟨_, ?_, this⟩
    show (numsOf ((i :: r).map .int)).bind _ = _
    rw [nums_map]
    rfl
end
end FL
namespace FL
open PySem PySem.Spec L2
section
variable {xs : List Int} {p : Int} {q : Rat} {E : XP}
/-- a drawn height -/
structure Ht (q : Rat) : Prop where
  fx : ∃ N : Nat, 1 ≤ N ∧ N ≤ 10 ∧ Fx N 400000 q
theorem Ht.hq (H : Ht q) : Hq q := by
  obtain ⟨N, n1, n2, f⟩ := H.fx
  exact ⟨N, n1, by omega, f.up (by omega)⟩
theorem Ht.hq2 (H : Ht q) : Hq (q + 1 / 2) := by
  obtain ⟨N, n1, n2, f⟩ := H.fx
  have a := f.lift (c := 2) (by omega)
  have h : Fx 2 1 ((1 : Rat) / 2) := ⟨by omega, 1, by decide +kernel, by omega⟩
  have b := h.lift (c := N) (by omega)
  rw [Nat.mul_comm N 2, Nat.mul_one] at b
  exact ⟨2 * N, by omega, by omega, (a.add b).up (by omega)⟩
theorem pour_sm (G : Flo xs) (H : Hq q) : Sm 100 (pour xs q) := by
  obtain ⟨N, n1, n2, fx⟩ := H.dep G
  have := Fx.sum (N := N) (M := 2000000) (l := xs.map fun x => dep x q) (by omega) fun r hr => by
    obtain ⟨x, hx, rfl⟩ := List.mem_map.mp hr
    exact (fx x hx).1
  rw [pour_sum, List.length_map] at this
  have g9 := G.nine
  exact this.sm (Nat.lt_of_lt_of_le (show N < 2 ^ 30 by omega) (pow_le _ _ (by decide))) (Nat.lt_of_lt_of_le (show xs.length * 2000000 < 2 ^ 30 by omega) (pow_le _ _ (by decide)))
theorem half : D.tup [.int 1, .int 2] = fr (1 / 2) := by
  show D.tup [.int 1, .int 2] = .tup [.int (1 / 2 : Rat).num, .int (((1 / 2 : Rat).den : Nat) : Int)]
  rw [show (1 / 2 : Rat).num = 1 by decide +kernel, show (1 / 2 : Rat).den = 2 by decide +kernel]
  rfl
theorem n_told (G : Flo xs) (p0 : 0 ≤ p) (p1 : p ≤ 9999) (H : Ht q) {P : D → Prop} (hp : P (.bl true)) : t__law_is_told (.tup (xs.map .int)) (.int p) (fr q) P E := by
  obtain ⟨h, ew, L⟩ := e_waters G p0 p1
  have lw := e_lwaters_of G p0 p1 L
  have g1 := G.one
  have g9 := G.nine
  have eo := e_poured G H.hq
  have eo2 := e_poured G H.hq2
  have lo := e_lpoured G H.hq
  have sq : t__law_same 10 (fr (pour xs q)) (fr (pour xs q)) = tp (.bl true) := e_same6 10 _ rfl
  have s0 : t__law_same 10 (fr 0) (fr ((0 : Int) : Rat)) = tp (.bl true) := e_same6 10 (fr 0) rfl
  have pq := e_plus6 (a := q) (b := 1 / 2) (H.hq.sm.mono (j := 240) (by decide)) ((by
    have h : Fx 2 1 ((1 : Rat) / 2) := ⟨by omega, 1, by decide +kernel, by omega⟩
    exact h.sm (Nat.lt_of_lt_of_le (show 2 < 2 ^ 30 by omega) (pow_le _ _ (by decide))) (Nat.lt_of_lt_of_le (show 1 < 2 ^ 30 by omega) (pow_le _ _ (by decide))) : Sm 240 ((1 : Rat) / 2)))
  have bq := e_below6 ((pour_sm G H.hq2).mono (j := 2000) (by decide)) ((pour_sm G H.hq).mono (j := 2000) (by decide))
  rw [decide_eq_false (Rat.not_lt.mpr (pour_mono (by grind) xs))] at bq
  obtain ⟨mn, emn, mm, ml⟩ := min_tup (ns := xs) (by intro z; rw [z] at g1; simp at g1)
  have mok := G.ok mn mm
  have em0 := e_poured G (q := ((mn : Int) : Rat)) ⟨1, by omega, by omega, (Fx.int (N := 1) (by omega) mn).up (by omega)⟩
  rw [pour_none xs fun x hx => Rat.not_lt.mpr (Rat.intCast_le_intCast.mpr (ml x hx))] at em0
  have j1 : ∀ a b : D, ixD (.tup [a, b]) (.int 1) = some b := fun _ _ => rfl
  unfold t__law_is_told
  simp only [x_2, x_cons, p_tb, p_tbb, p_u2, lw, p_tO, j1]
  by_cases z : p = 0
  · subst z
    have e0 := e_flood_0 G
    have sn : t__law_same 10 .non .non = tp (.bl true) := e_same6 10 _ rfl
    have nn : isNoneD .non .non = some (.bl true) := rfl
    have nn2 : notNoneD .non .non = some (.bl false) := rfl
    have nb : neD (.bl true) (.bl true) = some (.bl false) := rfl
    refine pick .non ?hA ?hB ?hK
    case hA => simp only [p_u2, e0]
    case hB => simp only [ord10', p_u2, e0, List.length_cons, List.length_nil, Nat.zero_add, Nat.reduceAdd, p_tA]
    case hK =>
      simp only [if_true, p_u2, sn, x_if, x_ttOr, x_ttNot, x_tru, x_MT, x_2, p_tb, p_tbb, d_trub, p_tO, Bool.not_true, Bool.false_eq_true, if_false, nn, nn2, d_eqi, decide_true, nb, d_unBl]
      refine pick (fr (pour xs q)) ?RA1 ?RB1 ?RK1
      case RA1 => simp only [p_u2, eo]
      case RB1 => simp only [ord10', p_u2, eo, List.length_cons, List.length_nil, Nat.zero_add, Nat.reduceAdd, p_tA]
      case RK1 =>
        simp only [p_u1, p_u2, lo, x_if, x_ttNot, x_tru, p_tb, p_tbb, sq, d_trub, p_tO, Bool.not_true, Bool.false_eq_true, if_false, x_and, x_not, x_tup, x_cons, List.length_cons, List.length_nil, Nat.zero_add, Nat.reduceAdd, Nat.reduceLeDiff, most_eq, p_tA, p_tbA, half, pq, eo2, bq, Bool.not_false, if_true, x_Bf, emn, fr_int', em0, s0, h_tp]
        exact hp
  · have pp : 0 < p := by omega
    have ef := e_flood_of G pp p1 L
    have sn : t__law_same 10 (fr h) (fr h) = tp (.bl true) := e_same6 10 _ rfl
    have nn : isNoneD (fr h) .non = some (.bl false) := rfl
    have nn2 : notNoneD (fr h) .non = some (.bl true) := rfl
    have nb : neD (.bl false) (.bl false) = some (.bl false) := rfl
    have eh := e_poured G L.hq
    rw [L.is] at eh
    have tn : neD (fr (p : Rat)) (fr ((p : Int) : Rat)) = some (.bl false) := by rw [d_nefr]; simp
    have r0 : range1 [.int (xs.length : Int)] = some ((List.range xs.length).map fun i : Nat => .int (i : Int)) := d_range1 (by omega)
    have ln : lenB [.tup (xs.map .int)] = some (.int (xs.length : Int)) := by rw [d_len, List.length_map]
    have sd : ∀ x ∈ xs, Sm 100 (dep x h) := fun x hx => by
      obtain ⟨m, m1, m9, f⟩ := id L.fx
      exact fx_sm9 (fx_dep m1 m9 f (G.ok x hx)) m9 (by omega) 100 (by decide)
    have nh : neD (fr h) (fr h) = some (.bl false) := by rw [d_nefr]; simp
    refine pick (fr h) ?hA ?hB ?hK
    case hA => simp only [p_u2, ef]
    case hB => simp only [ord10', p_u2, ef, List.length_cons, List.length_nil, Nat.zero_add, Nat.reduceAdd, p_tA]
    case hK =>
      simp only [z, if_false, p_u2, sn, x_if, x_ttOr, x_ttNot, x_tru, x_MT, x_2, p_tb, p_tbb, d_trub, p_tO, Bool.not_true, Bool.false_eq_true, nn, nn2, d_eqi, decide_false, nb, d_unBl, if_true, ew, eh, x_tup, x_cons, List.length_cons, List.length_nil, Nat.zero_add, Nat.reduceAdd, Nat.reduceLeDiff, most_eq, p_tA, p_tbA, fr_int', tn, x_Bf, x_fz, x_comp, ln, r0, List.length_map, List.length_range, show xs.length ≤ 100000 by omega]
      rw [compL_map (fun i : Nat => D.int (i : Int)) (fun _ => D.bl false) _ _ _ (List.range xs.length) ?g2]
      case g2 =>
        intro i hi
        have hi := List.mem_range.mp hi
        have i2 : ixD (.tup (xs.map fun x => fr (dep x h))) (.int (i : Int)) = some (fr (dep (flr xs i) h)) := told_ix (f := fun x => fr (dep x h)) hi
        have b := e_plus6 ((sm_fl (G.ok _ (flr_mem hi))).mono (j := 240) (by decide)) ((sd _ (flr_mem hi)).mono (j := 240) (by decide))
        simp only [p_tb, p_tbb, if_true, x_and, x_2, i2, p_tO, d_fr0, d_gt, num_pos6, d_trub]
        by_cases c : 0 < dep (flr xs i) h
        · have e : ((flr xs i : Int) : Rat) + dep (flr xs i) h = h := by
            unfold dep at c ⊢
            split at c
            · rename_i d
              rw [if_pos d]
              grind
            · exact absurd c Rat.lt_irrefl
          rw [e] at b
          simp only [decide_eq_true c, if_true, flr_ix hi, i2, p_tO, p_tb, p_tbb, x_tup, x_cons, List.length_cons, List.length_nil, Nat.zero_add, Nat.reduceAdd, Nat.reduceLeDiff, most_eq, p_tA, p_tbA, fr_int', p_u2, b, nh]
        · simp only [decide_eq_false c, Bool.false_eq_true, if_false, p_tb]
      simp only [p_NX, p_tb, p_tbb, p_tO, any_f, d_trub, Bool.false_eq_true, if_false, x_ttAnd, d_lt, d_unBl, x_MT, x_2]
      have low : (if decide (p < 9999) = true then tb (tO (addD (.int p) (.int 1))) fun e => tb (t_flood_level (.tup (xs.map .int)) e) fun a => tb (t__law_is_below (fr h) a) fun a => tb (tO (truB a)) fun k => tp (!k) else tp false) = tp false := by
        by_cases c : p < 9999
        · obtain ⟨h', e', L'⟩ := e_level G (p := p + 1) (by omega) (by omega)
          have ef' := e_flood_of G (p := p + 1) (by omega) (by omega) L'
          have lt : h < h' := by
            by_cases d : h < h'
            · exact d
            · have := pour_mono (Rat.not_lt.mp d) xs
              rw [L.is, L'.is] at this
              have := Rat.intCast_le_intCast.mp this
              omega
          have b := e_below6 (L.sm.mono (j := 2000) (by decide)) (L'.sm.mono (j := 2000) (by decide))
          rw [decide_eq_true lt] at b
          rw [if_pos (decide_eq_true c)]
          simp only [d_add, p_tO, p_tb, ef', b, d_trub, Bool.not_true]
        · rw [if_neg (by rw [decide_eq_false c]; exact Bool.false_ne_true)]
      rw [low]
      simp only [p_tb, Bool.false_eq_true, if_false]
      refine pick (fr (pour xs q)) ?RA2 ?RB2 ?RK2
      case RA2 => simp only [p_u2, eo]
      case RB2 => simp only [ord10', p_u2, eo, List.length_cons, List.length_nil, Nat.zero_add, Nat.reduceAdd, p_tA]
      case RK2 =>
        simp only [p_u1, p_u2, lo, x_if, x_ttNot, x_tru, p_tb, p_tbb, sq, d_trub, p_tO, Bool.not_true, Bool.false_eq_true, if_false, x_and, x_not, x_tup, x_cons, List.length_cons, List.length_nil, Nat.zero_add, Nat.reduceAdd, Nat.reduceLeDiff, most_eq, p_tA, p_tbA, half, pq, eo2, bq, Bool.not_false, if_true, x_Bf, emn, fr_int', em0, s0, h_tp]
        exact hp
end
end FL
namespace FL
open PySem PySem.Spec L2
section
variable {E : XP}
theorem flo_of {xs : List Int} (h1 : 1 ≤ xs.length) (h2 : xs.length ≤ 9) (h : ∀ x ∈ xs, -9999 ≤ x ∧ x ≤ 9999) : Flo xs := ⟨h1, h2, h⟩
theorem lvl_of {xs : List Int} {p h : Int} (b : -9999 ≤ h ∧ h ≤ 19999) (e : pour xs ((h : Int) : Rat) = (p : Rat)) : Lvl xs p ((h : Int) : Rat) := ⟨e, 1, by omega, by omega, (Fx.int (N := 1) (by omega) h).up (by omega)⟩
theorem end1 : t_flood_level (.tup [.int 0, .int 2, .int 9]) (.int 4) = tp (fr ((3 : Int) : Rat)) := e_flood_of (xs := [0, 2, 9]) (p := 4) (flo_of (by decide) (by decide) (by decide)) (by omega) (by omega) (lvl_of (h := 3) (by omega) (by decide +kernel))
theorem end2 : t_poured_for (.tup [.int 0, .int 2, .int 9]) (fr ((3 : Int) : Rat)) = tp (fr ((4 : Int) : Rat)) := by
  have := e_poured (xs := [0, 2, 9]) (q := ((3 : Int) : Rat)) (flo_of (by decide) (by decide) (by decide)) ⟨1, by omega, by omega, (Fx.int (N := 1) (by omega) 3).up (by omega)⟩
  rw [show pour [0, 2, 9] ((3 : Int) : Rat) = ((4 : Int) : Rat) by decide +kernel] at this
  exact this
theorem end3 : t_flood_level (.tup [.int 1, .int 2]) (.int 0) = tp .non := e_flood_0 (xs := [1, 2]) (flo_of (by decide) (by decide) (by decide))
theorem end4 : t_poured_for (.tup [.int 1, .int 2]) (.tup [.int (0 - 5), .int 2]) = tp (fr ((0 : Int) : Rat)) := by
  have := e_poured (xs := [1, 2]) (q := Rat.divInt (0 - 5) 2) (flo_of (by decide) (by decide) (by decide)) ⟨2, by omega, by omega, ⟨by omega, 0 - 5, rfl, by omega⟩⟩
  rw [show pour [1, 2] (Rat.divInt (0 - 5) 2) = ((0 : Int) : Rat) by decide +kernel] at this
  exact this
theorem n_right {P : D → Prop} (hP : P (.bl true)) : t__law_right P E := by
  have r16 : range1 [.int 16] = some ((List.range 16).map fun i : Nat => .int (i : Int)) := d_range1 (n := 16) (by omega)
  unfold t__law_right
  simp only [x_forX, x_Bf, x_cons, p_tb, p_tbb, r16, p_tO, List.length_map, List.length_range, most_eq, Nat.reduceLeDiff, p_tA, p_tbA]
  rw [h_tb]
  refine forXL_inv (fun _ _ => True) _ _ _ _ (fun d ds s _ P' hp => ?_) trivial (fun _ _ => ?_)
  · have hp := hp () trivial
    simp only [p_u1]
    rw [h_tb]
    refine n_floors fun xs G => ?_
    have g1 := G.one
    have g9 := G.nine
    simp only [x_tup, x_cons, x_2, p_u1, p_tb, p_tbb]
    rw [h_tb]
    refine n_of (by rw [List.length_map]; exact g1) (by rw [List.length_map]; omega) fun d hd => ?_
    obtain ⟨x, hx, rfl⟩ := List.mem_map.mp hd
    have gx := G.ok x hx
    simp only [List.length_cons, List.length_nil, Nat.zero_add, Nat.reduceAdd, Nat.reduceLeDiff, most_eq, p_tA, p_tbA, fr_int', p_tb, k_take]
    refine ⟨by omega, by omega, fun t t0 t1 => ?_⟩
    simp only [d_sub, p_tO, p_tb, k_take]
    refine ⟨by omega, by omega, fun u u0 u1 => ?_⟩
    obtain ⟨n, en⟩ : ∃ n : Nat, 1 + u = (n : Int) := ⟨(1 + u).toNat, by omega⟩
    have pt := e_part6 (n := t - 40) (m := (n : Int)) (by omega) (by rw [Int.natAbs_natCast]; exact Nat.lt_of_lt_of_le (show n < 2 ^ 4 by omega) (pow_le _ _ (by decide)))
    have fd : Fx n 100 (Rat.divInt (t - 40) (n : Int)) := ⟨by omega, t - 40, rfl, by omega⟩
    have fxx := (Fx.int (N := n) (by omega) x).up (M' := 200000) (by
      have : n * x.natAbs ≤ 9 * 9999 := Nat.mul_le_mul (by omega) (by omega)
      omega)
    have H : Ht (((x : Int) : Rat) + Rat.divInt (t - 40) (n : Int)) := ⟨n, by omega, by omega, (fxx.add fd).up (by omega)⟩
    have pl := e_plus6 ((sm_fl gx).mono (j := 240) (by decide)) (fd.sm (k := 240) (Nat.lt_of_lt_of_le (show n < 2 ^ 4 by omega) (pow_le _ _ (by decide))) (Nat.lt_of_lt_of_le (show 100 < 2 ^ 30 by omega) (pow_le _ _ (by decide))))
    simp only [d_add, en, p_tO, p_tb, p_u2, pt, pl, x_if, x_ttNot, x_tru, p_tbb, x_cons]
    rw [h_tb]
    refine n_of (by decide) (by decide) fun d hd => ?_
    obtain ⟨w, rfl, w0, w1⟩ : ∃ w : Int, d = .int w ∧ 1 ≤ w ∧ w ≤ 10000 := by
      simp only [List.mem_cons, List.not_mem_nil, or_false] at hd
      rcases hd with rfl | rfl | rfl | rfl
      · exact ⟨1, rfl, by omega, by omega⟩
      · exact ⟨9, rfl, by omega, by omega⟩
      · exact ⟨100, rfl, by omega, by omega⟩
      · exact ⟨10000, rfl, by omega, by omega⟩
    simp only [k_take]
    refine ⟨by omega, by omega, fun v v0 v1 => ?_⟩
    simp only [p_u3]
    rw [h_tb]
    refine n_told G v0 (by omega) H ?_
    simp only [d_trub, p_tO, p_tb, Bool.not_true, Bool.false_eq_true, if_false, h_tp]
    exact hp
  · have sm := e_same6 10 (.lst [fr ((3 : Int) : Rat), fr ((4 : Int) : Rat), .non, fr ((0 : Int) : Rat)]) rfl
    simp only [p_fin, x_tup, x_cons, x_2, x_fz, x_lst, p_tb, p_tbb, d_sub, p_tO, List.length_cons, List.length_nil, Nat.zero_add, Nat.reduceAdd, Nat.reduceLeDiff, most_eq, p_tA, p_tbA, p_u2, fr_int', end1, end2, end3, end4, sm, h_tp]
    exact hP
end
end FL
namespace FL
open PySem PySem.Spec L2
theorem plain_t : ∀ ns : List Int, ns.length ≤ 63 → t_law (.scr (ns.map .int)) (fun d => d = .bl true) (fun _ _ => False) := by
  intro ns hl
  obtain ⟨m, hm, em⟩ : ∃ m : Nat, m ≤ 3 ∧ (tb (tO (min2B [.int (ns.length : Int), .int 3])) fun x => tO (max2B [.int 2, x])) = tp (.int (m : Int)) := by
    refine ⟨max 2 (min 3 ns.length), by omega, ?_⟩
    rw [d_min2, p_tO, p_tb, d_max2, p_tO]
    congr 2
    split <;> split <;> omega
  have em' : ∀ {β : Type} (f : D → TM β), (tb (tO (min2B [.int (ns.length : Int), .int 3])) fun x => tb (tO (max2B [.int 2, x])) f) = f (.int (m : Int)) := fun f => by
    have := congrArg (fun t => tb t f) em
    exact this
  simp only [t_law, x_Bf, x_fz, x_comp, x_cons, p_tb, p_tbb, d_lens, List.length_map, p_tO]
  rw [em', d_range1 (show m ≤ 1000000 by omega)]
  simp only [p_tO, p_tb, p_tbA, List.length_map, List.length_range, most_eq, show m ≤ 100000 by omega, p_tA]
  rw [h_tbNX]
  refine compL_any (R := fun y => y = .bl true) _ _ _ _ (fun d hd P' hP' => ?_) (fun l hl2 hr => ?_)
  · obtain ⟨k, hk, rfl⟩ := List.mem_map.mp hd
    have hk := List.mem_range.mp hk
    simp only [p_tb, p_tbb]
    rw [h_tb]
    refine ⟨ns, k, rfl, hl, by omega, by omega, ?_⟩
    simp only [p_tb, p_u0]
    exact n_right (hP' _ rfl)
  · simp only [p_tb, trues_of hr, p_tO, h_tp]
end FL
namespace FL
open PySem PySem.Spec L2
theorem sim_is_whole : SimF0 F_is_whole (u1 t_is_whole) := by
  unfold F_is_whole B_is_whole
  exact sf1 (fun x_value => (fun js w => [.val x_value])) (fun _ _ _ => rfl) (fun x_value => by
    unfold t_is_whole
    exact (sb_rr (sb_ret (wk_any _) (sm_andz (sm_B (sm_consz (sm_var fun _ _ => rfl) (sm_consz sm_C sm_nil))) (sm_not (sm_B (sm_consz (sm_var fun _ _ => rfl) (sm_consz sm_C sm_nil))))))))
theorem sim_is_between : SimF0 F_is_between (u3 t_is_between) := by
  unfold F_is_between B_is_between
  exact sf3 (fun x_value x_low x_high => (fun js w => [.val x_value, .val x_low, .val x_high])) (fun _ _ _ _ _ => rfl) (fun x_value x_low x_high => by
    unfold t_is_between
    exact (sb_rr (sb_ret (wk_any _) (sm_andz (sm_callD (wk_any _) sim_is_whole u1_len (sm_consz (sm_var fun _ _ => rfl) sm_nil)) (sm_chainz (sm_var fun _ _ => rfl) (sm_var fun _ _ => rfl) (sm_var fun _ _ => rfl))))))
theorem sim_is_tuple_of : SimF0 F_is_tuple_of (u2 t_is_tuple_of) := by
  unfold F_is_tuple_of B_is_tuple_of
  exact sf2 (fun x_value x_many => (fun js w => [.val x_value, .val x_many])) (fun _ _ _ _ => rfl) (fun x_value x_many => by
    unfold t_is_tuple_of
    exact (sb_rr (sb_ret (wk_any _) (sm_andz (sm_B (sm_consz (sm_var fun _ _ => rfl) (sm_consz sm_C sm_nil))) (sm_2z (sm_B (sm_consz (sm_var fun _ _ => rfl) sm_nil)) (sm_var fun _ _ => rfl))))))
theorem sim_is_floor : SimF0 F_is_floor (u1 t_is_floor) := by
  unfold F_is_floor B_is_floor
  exact sf1 (fun x_value => (fun js w => [.val x_value])) (fun _ _ _ => rfl) (fun x_value => by
    unfold t_is_floor
    exact (sb_rr (sb_ret (wk_any _) (sm_callD (wk_any _) sim_is_between u3_len (sm_consz (sm_var fun _ _ => rfl) (sm_consz (sm_1 sm_C) (sm_consz sm_C sm_nil)))))))
theorem sim_first_wrong__is_floor : SimF0 F_first_wrong__is_floor (u4 t_first_wrong__is_floor) := by
  unfold F_first_wrong__is_floor B_first_wrong__is_floor
  exact sf4 (fun x_value x_fewest x_most x_is_right => (fun js w => [.val x_value, .val x_fewest, .val x_most, .val x_is_right, .no, .no])) (fun _ _ _ _ _ _ => rfl) (fun x_value x_fewest x_most x_is_right => by
    unfold t_first_wrong__is_floor
    exact (sb_ifseq (sb_if (c1 := 0) (c2 := 0) (c3 := 0) (sm_tOrz (sm_tNot (sm_tru (sm_B (sm_consz (sm_var fun _ _ => rfl) (sm_consz sm_C sm_nil))))) (sm_tNot (sm_mT (sm_chainz (sm_var fun _ _ => rfl) (sm_B (sm_consz (sm_var fun _ _ => rfl) sm_nil)) (sm_var fun _ _ => rfl))))) (sb_rr (sb_eq ret_seq (sb_ret (wk_any _) (sm_fz (sm_lst (sm_consz sm_C sm_nil)))))) (sb_nxseq (sb_rr (sb_ret (wk_any _) (sm_cutz (sm_fz (sm_comp (c1 := 0) (c2 := 0) (c3 := 0) (c4 := 0) (fun js w => [.val x_value, .val x_fewest, .val x_most, .val x_is_right, .no, .no]) (fun (v1 : D × (D × (Unit))) => (fun js w => [.val x_value, .val x_fewest, .val x_most, .val x_is_right, .val v1.1, .val v1.2.1])) (sm_iOf (sm_consz (sm_var fun _ _ => rfl) sm_nil)) (fun _ => sg_tup' (fun _ => sg_cons' (c1 := 0) (c2 := 0) (f1 := fun (a2 : D) => (fun js w => [.val x_value, .val x_fewest, .val x_most, .val x_is_right, .val a2, .no])) (f2 := fun (a2 : D) (b2 : D × (Unit)) => (fun js w => [.val x_value, .val x_fewest, .val x_most, .val x_is_right, .val a2, .val b2.1])) (fun _ => sg_v (fun dd => (fun js w => [.val x_value, .val x_fewest, .val x_most, .val x_is_right, .val dd, .no])) (fun _ _ => (Nat.le_of_ble_eq_true rfl)) (fun _ _ _ => rfl)) (fun a2 => (fun _ => sg_cons' (c1 := 0) (c2 := 0) (f1 := fun (a3 : D) => (fun js w => [.val x_value, .val x_fewest, .val x_most, .val x_is_right, .val a2, .val a3])) (f2 := fun (a3 : D) (b3 : Unit) => (fun js w => [.val x_value, .val x_fewest, .val x_most, .val x_is_right, .val a2, .val a3])) (fun _ => sg_v (fun dd => (fun js w => [.val x_value, .val x_fewest, .val x_most, .val x_is_right, .val a2, .val dd])) (fun _ _ => (Nat.le_of_ble_eq_true rfl)) (fun _ _ _ => rfl)) (fun a3 => (fun _ => sg_nil')) (Nat.le_of_ble_eq_true rfl))) (Nat.le_of_ble_eq_true rfl))) (fun v1 => (sm_tNot (sm_tru (sm_callPv (fun _ _ => rfl) (wk_any _) sim_is_floor u1_len (sm_consz (sm_var fun _ _ => rfl) sm_nil))))) (fun v1 => (sm_var fun _ _ => rfl)) (fun _ _ => rfl) (fun _ _ => rfl) (fun _ js _ => ⟨js, rfl⟩) (fun _ _ js _ => ⟨js, rfl⟩) (Nat.le_of_ble_eq_true rfl))) sm_none (sm_oint sm_C))))) (Nat.le_of_ble_eq_true rfl))))
theorem sim_fraction : SimF0 F_fraction (u2 t_fraction) := by
  unfold F_fraction B_fraction
  exact sf2 (fun x_number x_under => (fun js w => [.val x_number, .val x_under, .no])) (fun _ _ _ _ => rfl) (fun x_number x_under => by
    unfold t_fraction
    exact (sb_set (c1 := 0) (c2 := 0) (fun x_part => (fun js w => [.val x_number, .val x_under, .val x_part])) (sm_2z (sm_B (sm_consz (sm_var fun _ _ => rfl) (sm_consz (sm_var fun _ _ => rfl) sm_nil))) (sm_ifz (sm_mT (sm_2z (sm_var fun _ _ => rfl) sm_C)) sm_C (sm_1 sm_C))) (fun _ _ => (Nat.le_of_ble_eq_true rfl)) (fun _ _ _ => rfl) (fun x_part => (sb_rr (sb_ret (wk_any _) (sm_tup (sm_consz (sm_2z (sm_var fun _ _ => rfl) (sm_var fun _ _ => rfl)) (sm_consz (sm_2z (sm_var fun _ _ => rfl) (sm_var fun _ _ => rfl)) sm_nil)))))) (Nat.le_of_ble_eq_true rfl)))
theorem sim_is_fraction_by : SimF0 F_is_fraction_by (u1 t_is_fraction_by) := by
  unfold F_is_fraction_by B_is_fraction_by
  exact sf1 (fun x_value => (fun js w => [.val x_value])) (fun _ _ _ => rfl) (fun x_value => by
    unfold t_is_fraction_by
    exact (sb_ifseq (sb_if (c1 := 0) (c2 := 0) (c3 := 0) (sm_tOrz (sm_tNot (sm_tru (sm_callD (wk_any _) sim_is_tuple_of u2_len (sm_consz (sm_var fun _ _ => rfl) (sm_consz sm_C sm_nil))))) (sm_tOrz (sm_tNot (sm_tru (sm_callD (wk_any _) sim_is_whole u1_len (sm_consz (sm_2z (sm_var fun _ _ => rfl) sm_C) sm_nil)))) (sm_tOrz (sm_tNot (sm_tru (sm_callD (wk_any _) sim_is_whole u1_len (sm_consz (sm_2z (sm_var fun _ _ => rfl) sm_C) sm_nil)))) (sm_mT (sm_2z (sm_2z (sm_var fun _ _ => rfl) sm_C) sm_C))))) (sb_rr (sb_eq ret_seq (sb_ret (wk_any _) sm_C))) (sb_nxseq (sb_rr (sb_ret (wk_any _) (sm_2z (sm_B (sm_consz (sm_2z (sm_var fun _ _ => rfl) sm_C) (sm_consz (sm_2z (sm_var fun _ _ => rfl) sm_C) sm_nil))) sm_C)))) (Nat.le_of_ble_eq_true rfl))))
theorem sim_whole : SimF0 F_whole (u1 t_whole) := by
  unfold F_whole B_whole
  exact sf1 (fun x_number => (fun js w => [.val x_number])) (fun _ _ _ => rfl) (fun x_number => by
    unfold t_whole
    exact (sb_rr (sb_ret (wk_any _) (sm_tup (sm_consz (sm_var fun _ _ => rfl) (sm_consz sm_C sm_nil))))))
theorem sim_sum_of : SimF0 F_sum_of (u2 t_sum_of) := by
  unfold F_sum_of B_sum_of
  exact sf2 (fun x_one x_two => (fun js w => [.val x_one, .val x_two])) (fun _ _ _ _ => rfl) (fun x_one x_two => by
    unfold t_sum_of
    exact (sb_rr (sb_ret (wk_any _) (sm_callD (wk_any _) sim_fraction u2_len (sm_consz (sm_2z (sm_2z (sm_2z (sm_var fun _ _ => rfl) sm_C) (sm_2z (sm_var fun _ _ => rfl) sm_C)) (sm_2z (sm_2z (sm_var fun _ _ => rfl) sm_C) (sm_2z (sm_var fun _ _ => rfl) sm_C))) (sm_consz (sm_2z (sm_2z (sm_var fun _ _ => rfl) sm_C) (sm_2z (sm_var fun _ _ => rfl) sm_C)) sm_nil))))))
theorem sim_less : SimF0 F_less (u2 t_less) := by
  unfold F_less B_less
  exact sf2 (fun x_one x_two => (fun js w => [.val x_one, .val x_two])) (fun _ _ _ _ => rfl) (fun x_one x_two => by
    unfold t_less
    exact (sb_rr (sb_ret (wk_any _) (sm_callD (wk_any _) sim_fraction u2_len (sm_consz (sm_2z (sm_2z (sm_2z (sm_var fun _ _ => rfl) sm_C) (sm_2z (sm_var fun _ _ => rfl) sm_C)) (sm_2z (sm_2z (sm_var fun _ _ => rfl) sm_C) (sm_2z (sm_var fun _ _ => rfl) sm_C))) (sm_consz (sm_2z (sm_2z (sm_var fun _ _ => rfl) sm_C) (sm_2z (sm_var fun _ _ => rfl) sm_C)) sm_nil))))))
theorem sim_is_less : SimF0 F_is_less (u2 t_is_less) := by
  unfold F_is_less B_is_less
  exact sf2 (fun x_one x_two => (fun js w => [.val x_one, .val x_two])) (fun _ _ _ _ => rfl) (fun x_one x_two => by
    unfold t_is_less
    exact (sb_rr (sb_ret (wk_any _) (sm_2z (sm_2z (sm_2z (sm_var fun _ _ => rfl) sm_C) (sm_2z (sm_var fun _ _ => rfl) sm_C)) (sm_2z (sm_2z (sm_var fun _ _ => rfl) sm_C) (sm_2z (sm_var fun _ _ => rfl) sm_C))))))
theorem sim_total : SimF0 F_total (u1 t_total) := by
  unfold F_total B_total
  exact sf1 (fun x_some => (fun js w => [.val x_some, .no, .no])) (fun _ _ _ => rfl) (fun x_some => by
    unfold t_total
    exact (sb_set (c1 := 0) (c2 := 0) (fun x_found => (fun js w => [.val x_some, .val x_found, .no])) sm_C (fun _ _ => (Nat.le_of_ble_eq_true rfl)) (fun _ _ _ => rfl) (fun x_found => (sb_for (c1 := 0) (c2 := 0) (c3 := 0) (c4 := 0) (fun (s1 : D) => (fun js w => [.val x_some, .val s1, oe (js.v.getD 2 none)])) (fun (s1 : D) (x_each : D) => (fun js w => [.val x_some, .val s1, .val x_each])) x_found (sm_row (sm_var fun _ _ => rfl)) (wk (fun js w => ⟨[], []⟩) (fun _ _ => rfl)) (fun s1 => (fun _ => sg_v (fun dd => (fun js w => [.val x_some, .val s1, .val dd])) (fun _ _ => (Nat.le_of_ble_eq_true rfl)) (fun _ _ _ => rfl))) (fun s1 x_each => (sb_last (sb_set (c1 := 0) (c2 := 0) (fun x_found_2 => (fun js w => [.val x_some, .val x_found_2, .val x_each])) (sm_callD (wk_any _) sim_sum_of u2_len (sm_consz (sm_var fun _ _ => rfl) (sm_consz (sm_var fun _ _ => rfl) sm_nil))) (fun _ _ => (Nat.le_of_ble_eq_true rfl)) (fun _ _ _ => rfl) (fun x_found_2 => (sb_nx x_found_2 (Or.inl rfl) (wk (fun js w => ⟨[none, none, some x_each], []⟩) (fun _ _ => rfl)))) (Nat.le_of_ble_eq_true rfl)))) (fun s2 => (sb_rr (sb_ret (wk_any _) (sm_var fun _ _ => rfl)))) (Nat.le_of_ble_eq_true rfl))) (Nat.le_of_ble_eq_true rfl)))
theorem sim_check_fraction : SimF0 F_check_fraction (u1 t_check_fraction) := by
  unfold F_check_fraction B_check_fraction
  exact sf1 (fun x_value => (fun js w => [.val x_value])) (fun _ _ _ => rfl) (fun x_value => by
    unfold t_check_fraction
    exact (sb_last (sb_ifseq (sb_if (c1 := 0) (c2 := 0) (c3 := 0) (sm_tNot (sm_tru (sm_callD (wk_any _) sim_is_fraction_by u1_len (sm_consz (sm_var fun _ _ => rfl) sm_nil)))) sb_bad (sb_nxseq (sb_endN (wk_any _))) (Nat.le_of_ble_eq_true rfl)))))
theorem sim_check_number : SimF0 F_check_number (u3 t_check_number) := by
  unfold F_check_number B_check_number
  exact sf3 (fun x_value x_low x_high => (fun js w => [.val x_value, .val x_low, .val x_high])) (fun _ _ _ _ _ => rfl) (fun x_value x_low x_high => by
    unfold t_check_number
    exact (sb_last (sb_ifseq (sb_if (c1 := 0) (c2 := 0) (c3 := 0) (sm_tNot (sm_tru (sm_callD (wk_any _) sim_is_between u3_len (sm_consz (sm_var fun _ _ => rfl) (sm_consz (sm_var fun _ _ => rfl) (sm_consz (sm_var fun _ _ => rfl) sm_nil)))))) sb_bad (sb_nxseq (sb_endN (wk_any _))) (Nat.le_of_ble_eq_true rfl)))))
theorem sim_flood_level_by : SimF0 F_flood_level_by (u2 t_flood_level_by) := by
  unfold F_flood_level_by B_flood_level_by
  exact sf2 (fun x_floors x_poured => (fun js w => [.val x_floors, .val x_poured, .no, .no, .no, .no])) (fun _ _ _ _ => rfl) (fun x_floors x_poured => by
    unfold t_flood_level_by
    exact (sb_ifseq (sb_if (c1 := 0) (c2 := 0) (c3 := 0) (sm_mT (sm_2z (sm_var fun _ _ => rfl) sm_C)) (sb_rr (sb_eq ret_seq (sb_ret (wk_any _) sm_C))) (sb_nxseq (sb_set (c1 := 0) (c2 := 0) (fun x_low => (fun js w => [.val x_floors, .val x_poured, .val x_low, .no, .no, .no])) (sm_fz (sm_lB (sm_consz (sm_var fun _ _ => rfl) sm_nil))) (fun _ _ => (Nat.le_of_ble_eq_true rfl)) (fun _ _ _ => rfl) (fun x_low => (sb_set (c1 := 0) (c2 := 0) (fun x_levels => (fun js w => [.val x_floors, .val x_poured, .val x_low, .val x_levels, .no, .no])) (sm_fz (sm_comp (c1 := 0) (c2 := 0) (c3 := 0) (c4 := 0) (fun js w => [.val x_floors, .val x_poured, .val x_low, .no, .no, .no]) (fun (x_many : D) => (fun js w => [.val x_floors, .val x_poured, .val x_low, .no, .val x_many, .no])) (sm_iOf (sm_consz sm_C (sm_consz (sm_2z (sm_B (sm_consz (sm_var fun _ _ => rfl) sm_nil)) sm_C) sm_nil))) (fun _ => sg_v (fun dd => (fun js w => [.val x_floors, .val x_poured, .val x_low, .no, .val dd, .no])) (fun _ _ => (Nat.le_of_ble_eq_true rfl)) (fun _ _ _ => rfl)) (fun x_many => sm_P) (fun x_many => (sm_callD (wk_any _) sim_fraction u2_len (sm_consz (sm_2z (sm_var fun _ _ => rfl) (sm_B (sm_consz (sm_cutz (sm_var fun _ _ => rfl) sm_none (sm_oint (sm_var fun _ _ => rfl))) sm_nil))) (sm_consz (sm_var fun _ _ => rfl) sm_nil)))) (fun _ _ => rfl) (fun _ _ => rfl) (fun _ js _ => ⟨js, rfl⟩) (fun _ _ js _ => ⟨js, rfl⟩) (Nat.le_of_ble_eq_true rfl))) (fun _ _ => (Nat.le_of_ble_eq_true rfl)) (fun _ _ _ => rfl) (fun x_levels => (sb_forX (c1 := 0) (c2 := 0) (c3 := 0) (c4 := 0) (fun (s1 : Unit) => (fun js w => [.val x_floors, .val x_poured, .val x_low, .val x_levels, oe (js.v.getD 4 none), oe (js.v.getD 5 none)])) (fun (s1 : Unit) (v2 : D × (D × (Unit))) => (fun js w => [.val x_floors, .val x_poured, .val x_low, .val x_levels, .val v2.1, .val v2.2.1])) () (fun d => d) (fun _ => rfl) (fun _ => Or.inl rfl) (fun _ => wk_refl _) (sm_iOf (sm_consz (sm_cutz (sm_var fun _ _ => rfl) sm_none (sm_oint (sm_1 sm_C))) (sm_consz sm_C sm_nil))) (wk (fun js w => ⟨[], []⟩) (fun _ _ => rfl)) (fun s1 => (fun _ => sg_tup' (fun _ => sg_cons' (c1 := 0) (c2 := 0) (f1 := fun (a3 : D) => (fun js w => [.val x_floors, .val x_poured, .val x_low, .val x_levels, .val a3, oe (js.v.getD 5 none)])) (f2 := fun (a3 : D) (b3 : D × (Unit)) => (fun js w => [.val x_floors, .val x_poured, .val x_low, .val x_levels, .val a3, .val b3.1])) (fun _ => sg_v (fun dd => (fun js w => [.val x_floors, .val x_poured, .val x_low, .val x_levels, .val dd, oe (js.v.getD 5 none)])) (fun _ _ => (Nat.le_of_ble_eq_true rfl)) (fun _ _ _ => rfl)) (fun a3 => (fun _ => sg_cons' (c1 := 0) (c2 := 0) (f1 := fun (a4 : D) => (fun js w => [.val x_floors, .val x_poured, .val x_low, .val x_levels, .val a3, .val a4])) (f2 := fun (a4 : D) (b4 : Unit) => (fun js w => [.val x_floors, .val x_poured, .val x_low, .val x_levels, .val a3, .val a4])) (fun _ => sg_v (fun dd => (fun js w => [.val x_floors, .val x_poured, .val x_low, .val x_levels, .val a3, .val dd])) (fun _ _ => (Nat.le_of_ble_eq_true rfl)) (fun _ _ _ => rfl)) (fun a4 => (fun _ => sg_nil')) (Nat.le_of_ble_eq_true rfl))) (Nat.le_of_ble_eq_true rfl)))) (fun s1 v2 => (sb_last (sb_ifseq (sb_if (c1 := 0) (c2 := 0) (c3 := 0) (sm_tNot (sm_tru (sm_callD (wk_any _) sim_is_less u2_len (sm_consz (sm_callD (wk_any _) sim_whole u1_len (sm_consz (sm_2z (sm_var fun _ _ => rfl) (sm_var fun _ _ => rfl)) sm_nil)) (sm_consz (sm_var fun _ _ => rfl) sm_nil))))) (sb_eq ret_seq (sb_retX (fun _ => rfl) (fun _ => (wk_any _)) (sm_var fun _ _ => rfl))) (sb_nxseq (sb_nx (Lx.go ()) (Or.inl rfl) (wk (fun js w => ⟨[none, none, none, none, some v2.1, some v2.2.1], []⟩) (fun _ _ => rfl)))) (Nat.le_of_ble_eq_true rfl))))) (fun s6 => (sb_rr (sb_ret (wk_any _) (sm_2z (sm_var fun _ _ => rfl) (sm_1 sm_C))))) (Nat.le_of_ble_eq_true rfl))) (Nat.le_of_ble_eq_true rfl))) (Nat.le_of_ble_eq_true rfl))) (Nat.le_of_ble_eq_true rfl))))
theorem sim_depth_at : SimF0 F_depth_at (u2 t_depth_at) := by
  unfold F_depth_at B_depth_at
  exact sf2 (fun x_floor x_level => (fun js w => [.val x_floor, .val x_level, .no])) (fun _ _ _ _ => rfl) (fun x_floor x_level => by
    unfold t_depth_at
    exact (sb_set (c1 := 0) (c2 := 0) (fun x_found => (fun js w => [.val x_floor, .val x_level, .val x_found])) (sm_callD (wk_any _) sim_less u2_len (sm_consz (sm_var fun _ _ => rfl) (sm_consz (sm_callD (wk_any _) sim_whole u1_len (sm_consz (sm_var fun _ _ => rfl) sm_nil)) sm_nil))) (fun _ _ => (Nat.le_of_ble_eq_true rfl)) (fun _ _ _ => rfl) (fun x_found => (sb_rr (sb_ret (wk_any _) (sm_ifz (sm_mT (sm_2z (sm_2z (sm_var fun _ _ => rfl) sm_C) sm_C)) (sm_var fun _ _ => rfl) sm_C)))) (Nat.le_of_ble_eq_true rfl)))
theorem sim_waters_by : SimF0 F_waters_by (u2 t_waters_by) := by
  unfold F_waters_by B_waters_by
  exact sf2 (fun x_floors x_poured => (fun js w => [.val x_floors, .val x_poured, .no, .no])) (fun _ _ _ _ => rfl) (fun x_floors x_poured => by
    unfold t_waters_by
    exact (sb_set (c1 := 0) (c2 := 0) (fun x_level => (fun js w => [.val x_floors, .val x_poured, .val x_level, .no])) (sm_callD (wk_any _) sim_flood_level_by u2_len (sm_consz (sm_var fun _ _ => rfl) (sm_consz (sm_var fun _ _ => rfl) sm_nil))) (fun _ _ => (Nat.le_of_ble_eq_true rfl)) (fun _ _ _ => rfl) (fun x_level => (sb_rr (sb_ret (wk_any _) (sm_B (sm_consz (sm_fz (sm_comp (c1 := 0) (c2 := 0) (c3 := 0) (c4 := 0) (fun js w => [.val x_floors, .val x_poured, .val x_level, .no]) (fun (x_floor : D) => (fun js w => [.val x_floors, .val x_poured, .val x_level, .val x_floor])) (sm_row (sm_var fun _ _ => rfl)) (fun _ => sg_v (fun dd => (fun js w => [.val x_floors, .val x_poured, .val x_level, .val dd])) (fun _ _ => (Nat.le_of_ble_eq_true rfl)) (fun _ _ _ => rfl)) (fun x_floor => sm_P) (fun x_floor => (sm_ifz (sm_mT (sm_2z (sm_var fun _ _ => rfl) sm_C)) (sm_callD (wk_any _) sim_depth_at u2_len (sm_consz (sm_var fun _ _ => rfl) (sm_consz (sm_var fun _ _ => rfl) sm_nil))) sm_C)) (fun _ _ => rfl) (fun _ _ => rfl) (fun _ js _ => ⟨js, rfl⟩) (fun _ _ js _ => ⟨js, rfl⟩) (Nat.le_of_ble_eq_true rfl))) sm_nil))))) (Nat.le_of_ble_eq_true rfl)))
theorem sim_poured_for_by : SimF0 F_poured_for_by (u2 t_poured_for_by) := by
  unfold F_poured_for_by B_poured_for_by
  exact sf2 (fun x_floors x_level => (fun js w => [.val x_floors, .val x_level, .no])) (fun _ _ _ _ => rfl) (fun x_floors x_level => by
    unfold t_poured_for_by
    exact (sb_rr (sb_ret (wk_any _) (sm_callD (wk_any _) sim_total u1_len (sm_consz (sm_fz (sm_comp (c1 := 0) (c2 := 0) (c3 := 0) (c4 := 0) (fun js w => [.val x_floors, .val x_level, .no]) (fun (x_floor : D) => (fun js w => [.val x_floors, .val x_level, .val x_floor])) (sm_row (sm_var fun _ _ => rfl)) (fun _ => sg_v (fun dd => (fun js w => [.val x_floors, .val x_level, .val dd])) (fun _ _ => (Nat.le_of_ble_eq_true rfl)) (fun _ _ _ => rfl)) (fun x_floor => sm_P) (fun x_floor => (sm_callD (wk_any _) sim_depth_at u2_len (sm_consz (sm_var fun _ _ => rfl) (sm_consz (sm_var fun _ _ => rfl) sm_nil)))) (fun _ _ => rfl) (fun _ _ => rfl) (fun _ js _ => ⟨js, rfl⟩) (fun _ _ js _ => ⟨js, rfl⟩) (Nat.le_of_ble_eq_true rfl))) sm_nil)))))
theorem sim_check_floors : SimF0 F_check_floors (u1 t_check_floors) := by
  unfold F_check_floors B_check_floors
  exact sf1 (fun x_value => (fun js w => [.val x_value, .no])) (fun _ _ _ => rfl) (fun x_value => by
    unfold t_check_floors
    exact (sb_last (sb_for (c1 := 0) (c2 := 0) (c3 := 0) (c4 := 0) (fun (s1 : Unit) => (fun js w => [.val x_value, oe (js.v.getD 1 none)])) (fun (s1 : Unit) (x_index : D) => (fun js w => [.val x_value, .val x_index])) () (sm_row (sm_callD (wk_any _) sim_first_wrong__is_floor u4_len (sm_consz (sm_var fun _ _ => rfl) (sm_consz sm_C (sm_consz sm_C (sm_consz sm_C sm_nil)))))) (wk (fun js w => ⟨[], []⟩) (fun _ _ => rfl)) (fun s1 => (fun _ => sg_v (fun dd => (fun js w => [.val x_value, .val dd])) (fun _ _ => (Nat.le_of_ble_eq_true rfl)) (fun _ _ _ => rfl))) (fun s1 x_index => sb_bad) (fun s2 => (sb_endN (wk_any _))) (Nat.le_of_ble_eq_true rfl))))
theorem sim_check_flood : SimF0 F_check_flood (u2 t_check_flood) := by
  unfold F_check_flood B_check_flood
  exact sf2 (fun x_floors x_number => (fun js w => [.val x_floors, .val x_number])) (fun _ _ _ _ => rfl) (fun x_floors x_number => by
    unfold t_check_flood
    exact (sb_expr (c1 := 0) (c2 := 0) (sm_callD (wk_any _) sim_check_floors u1_len (sm_consz (sm_var fun _ _ => rfl) sm_nil)) (fun _ => (sb_last (sb_expr (c1 := 0) (c2 := 0) (sm_callD (wk_any _) sim_check_number u3_len (sm_consz (sm_var fun _ _ => rfl) (sm_consz sm_C (sm_consz sm_C sm_nil)))) (fun _ => (sb_endN (wk_any _))) (Nat.le_of_ble_eq_true rfl)))) (Nat.le_of_ble_eq_true rfl)))
theorem sim_waters : SimF0 F_waters (u2 t_waters) := by
  unfold F_waters B_waters
  exact sf2 (fun x_floors x_number => (fun js w => [.val x_floors, .val x_number])) (fun _ _ _ _ => rfl) (fun x_floors x_number => by
    unfold t_waters
    exact (sb_expr (c1 := 0) (c2 := 0) (sm_callD (wk_any _) sim_check_flood u2_len (sm_consz (sm_var fun _ _ => rfl) (sm_consz (sm_var fun _ _ => rfl) sm_nil))) (fun _ => (sb_rr (sb_ret (wk_any _) (sm_callD (wk_any _) sim_waters_by u2_len (sm_consz (sm_var fun _ _ => rfl) (sm_consz (sm_var fun _ _ => rfl) sm_nil)))))) (Nat.le_of_ble_eq_true rfl)))
theorem sim_flood_level : SimF0 F_flood_level (u2 t_flood_level) := by
  rw [Fe_flood_level]
  unfold F0_flood_level B_flood_level
  exact sf2 (fun x_floors x_number => (fun js w => [.val x_floors, .val x_number])) (fun _ _ _ _ => rfl) (fun x_floors x_number => by
    unfold t_flood_level
    exact (sb_expr (c1 := 0) (c2 := 0) (sm_callD (wk_any _) sim_check_flood u2_len (sm_consz (sm_var fun _ _ => rfl) (sm_consz (sm_var fun _ _ => rfl) sm_nil))) (fun _ => (sb_rr (sb_ret (wk_any _) (sm_callD (wk_any _) sim_flood_level_by u2_len (sm_consz (sm_var fun _ _ => rfl) (sm_consz (sm_var fun _ _ => rfl) sm_nil)))))) (Nat.le_of_ble_eq_true rfl)))
theorem sim_poured_for : SimF0 F_poured_for (u2 t_poured_for) := by
  rw [Fe_poured_for]
  unfold F0_poured_for B_poured_for
  exact sf2 (fun x_floors x_fraction => (fun js w => [.val x_floors, .val x_fraction])) (fun _ _ _ _ => rfl) (fun x_floors x_fraction => by
    unfold t_poured_for
    exact (sb_expr (c1 := 0) (c2 := 0) (sm_callD (wk_any _) sim_check_floors u1_len (sm_consz (sm_var fun _ _ => rfl) sm_nil)) (fun _ => (sb_expr (c1 := 0) (c2 := 0) (sm_callD (wk_any _) sim_check_fraction u1_len (sm_consz (sm_var fun _ _ => rfl) sm_nil)) (fun _ => (sb_rr (sb_ret (wk_any _) (sm_callD (wk_any _) sim_poured_for_by u2_len (sm_consz (sm_var fun _ _ => rfl) (sm_consz (sm_var fun _ _ => rfl) sm_nil)))))) (Nat.le_of_ble_eq_true rfl))) (Nat.le_of_ble_eq_true rfl)))
theorem sim__law_of : SimFW 2 0 F__law_of (u1 t__law_of) := by
  unfold F__law_of B__law_of
  exact sfI1_0 (cc := 2) (g := (fun js w => [.cel .io w, js.a.getD 1 .no])) (fun _ _ => rfl) (fun x_things => (fun js w => [.cel .io w, .val x_things])) (fun _ _ _ => rfl) (fun x_things => by
    unfold t__law_of
    exact (sb_rr (sb_ret (wk (fun js w => ⟨[], [.no, .val x_things]⟩) (fun _ _ => rfl)) (sm_2 (c1 := 0) (c2 := 2) (sm_var fun _ _ => rfl) (sm_callI (c1 := 0) (c2 := 2) (wk (fun js w => ⟨[], [.no, .val x_things]⟩) (fun _ _ => rfl)) (fun _ _ => ⟨_, rfl, fun _ => rfl⟩) (by decide) sim__law_take u1_len' (by decide) (sj_late (fun _ _ => ⟨_, _, rfl⟩) (sa'_val (c1 := 0) (c2 := 0) (sm_B (sm_consz (sm_var fun _ _ => rfl) sm_nil)) sa'_nil (Nat.le_of_ble_eq_true rfl))) (Nat.le_of_ble_eq_true rfl)) (Nat.le_of_ble_eq_true rfl)))))
theorem sim__law_same : ∀ n : Nat, SimF0 (F__law_same n) (u2 (t__law_same n))
  | 0 => fun ds P E p => by
    obtain ⟨_, _, _, p⟩ := u2_inv p
    exact p.elim
  | n + 1 => by
    unfold F__law_same B__law_same
    have SR := sim__law_same n
    exact sf2 (fun x_told x_due => (fun js w => [.val x_told, .val x_due, .no])) (fun _ _ _ _ => rfl) fun x_told x_due => by
      unfold t__law_same
      exact (sb_ifseq (sb_if (c1 := 0) (c2 := 0) (c3 := 0) (sm_tOrz (sm_tAndz (sm_tru (sm_B (sm_consz (sm_var fun _ _ => rfl) (sm_consz sm_C sm_nil)))) (sm_tNot (sm_tru (sm_B (sm_consz (sm_var fun _ _ => rfl) (sm_consz sm_C sm_nil)))))) (sm_tAndz (sm_tru (sm_B (sm_consz (sm_var fun _ _ => rfl) (sm_consz sm_C sm_nil)))) (sm_tNot (sm_tru (sm_B (sm_consz (sm_var fun _ _ => rfl) (sm_consz sm_C sm_nil))))))) (sb_rr (sb_eq ret_seq (sb_ret (wk_any _) sm_C))) (sb_nxseq (sb_ifseq (sb_if (c1 := 0) (c2 := 0) (c3 := 0) (sm_tru (sm_isT (sm_var fun _ _ => rfl))) (sb_rr (sb_eq ret_seq (sb_ret (wk_any _) (sm_andz (sm_2z (sm_B (sm_consz (sm_var fun _ _ => rfl) sm_nil)) (sm_B (sm_consz (sm_var fun _ _ => rfl) sm_nil))) (sm_B (sm_consz (sm_fz (sm_comp (c1 := 0) (c2 := 0) (c3 := 0) (c4 := 0) (fun js w => [.val x_told, .val x_due, .no]) (fun (x_at : D) => (fun js w => [.val x_told, .val x_due, .val x_at])) (sm_iOf (sm_consz (sm_B (sm_consz (sm_var fun _ _ => rfl) sm_nil)) sm_nil)) (fun _ => sg_v (fun dd => (fun js w => [.val x_told, .val x_due, .val dd])) (fun _ _ => (Nat.le_of_ble_eq_true rfl)) (fun _ _ _ => rfl)) (fun x_at => sm_P) (fun x_at => (sm_callD (wk_any _) (SR) u2_len (sm_consz (sm_2z (sm_var fun _ _ => rfl) (sm_var fun _ _ => rfl)) (sm_consz (sm_2z (sm_var fun _ _ => rfl) (sm_var fun _ _ => rfl)) sm_nil)))) (fun _ _ => rfl) (fun _ _ => rfl) (fun _ js _ => ⟨js, rfl⟩) (fun _ _ js _ => ⟨js, rfl⟩) (Nat.le_of_ble_eq_true rfl))) sm_nil)))))) (sb_nxseq (sb_ifseq (sb_if (c1 := 0) (c2 := 0) (c3 := 0) (sm_tOrz (sm_mT (sm_2z (sm_var fun _ _ => rfl) sm_C)) (sm_mT (sm_2z (sm_var fun _ _ => rfl) sm_C))) (sb_rr (sb_eq ret_seq (sb_ret (wk_any _) (sm_andz (sm_2z (sm_var fun _ _ => rfl) sm_C) (sm_2z (sm_var fun _ _ => rfl) sm_C))))) (sb_nxseq (sb_ifseq (sb_if (c1 := 0) (c2 := 0) (c3 := 0) (sm_tOrz (sm_tru (sm_B (sm_consz (sm_var fun _ _ => rfl) (sm_consz sm_C sm_nil)))) (sm_tru (sm_B (sm_consz (sm_var fun _ _ => rfl) (sm_consz sm_C sm_nil))))) (sb_rr (sb_eq ret_seq (sb_ret (wk_any _) (sm_andz (sm_B (sm_consz (sm_var fun _ _ => rfl) (sm_consz sm_C sm_nil))) (sm_andz (sm_B (sm_consz (sm_var fun _ _ => rfl) (sm_consz sm_C sm_nil))) (sm_2z (sm_var fun _ _ => rfl) (sm_var fun _ _ => rfl))))))) (sb_nxseq (sb_ifseq (sb_if (c1 := 0) (c2 := 0) (c3 := 0) (sm_tru (sm_B (sm_consz (sm_var fun _ _ => rfl) (sm_consz sm_C sm_nil)))) (sb_rr (sb_eq ret_seq (sb_ret (wk_any _) (sm_andz (sm_B (sm_consz (sm_var fun _ _ => rfl) (sm_consz sm_C sm_nil))) (sm_2z (sm_var fun _ _ => rfl) (sm_var fun _ _ => rfl)))))) (sb_nxseq (sb_ifseq (sb_if (c1 := 0) (c2 := 0) (c3 := 0) (sm_tru (sm_B (sm_consz (sm_var fun _ _ => rfl) (sm_consz sm_C sm_nil)))) (sb_rr (sb_eq ret_seq (sb_ret (wk_any _) (sm_andz (sm_B (sm_consz (sm_var fun _ _ => rfl) (sm_consz sm_C sm_nil))) (sm_2z (sm_var fun _ _ => rfl) (sm_var fun _ _ => rfl)))))) (sb_nxseq (sb_rr (sb_ret (wk_any _) (sm_andz (sm_B (sm_consz (sm_var fun _ _ => rfl) (sm_consz sm_C sm_nil))) (sm_andz (sm_B (sm_consz (sm_var fun _ _ => rfl) (sm_consz sm_C sm_nil))) (sm_andz (sm_2z (sm_B (sm_consz (sm_var fun _ _ => rfl) sm_nil)) (sm_B (sm_consz (sm_var fun _ _ => rfl) sm_nil))) (sm_2z (sm_var fun _ _ => rfl) (sm_var fun _ _ => rfl)))))))) (Nat.le_of_ble_eq_true rfl)))) (Nat.le_of_ble_eq_true rfl)))) (Nat.le_of_ble_eq_true rfl)))) (Nat.le_of_ble_eq_true rfl)))) (Nat.le_of_ble_eq_true rfl)))) (Nat.le_of_ble_eq_true rfl)))
theorem sim__law_part : SimF0 F__law_part (u2 t__law_part) := by
  unfold F__law_part B__law_part
  exact sf2 (fun x_one x_two => (fun js w => [.val x_one, .val x_two, .no, .no])) (fun _ _ _ _ => rfl) (fun x_one x_two => by
    unfold t__law_part
    exact (sb_seq (c1 := 0) (c2 := 0) (p1 := fun (v1 : D × D) => (fun js w => [.val v1.1, .val v1.2, .no, .no])) (sb_if (c1 := 0) (c2 := 0) (c3 := 0) (sm_mT (sm_2z (sm_var fun _ _ => rfl) sm_C)) (sb_last (sb_par2 (c1 := 0) (c2 := 0) (fun x_one_2 x_two_2 => (fun js w => [.val x_one_2, .val x_two_2, .no, .no])) (sm_consz (sm_2z sm_C (sm_var fun _ _ => rfl)) (sm_consz (sm_2z sm_C (sm_var fun _ _ => rfl)) sm_nil)) (fun _ _ => ⟨(Nat.le_of_ble_eq_true rfl), (Nat.le_of_ble_eq_true rfl)⟩) (fun _ _ _ _ => rfl) (fun x_one_2 x_two_2 => (sb_nx (x_one_2, x_two_2) rfl (wk (fun js w => ⟨[], []⟩) (fun _ _ => rfl)))) (Nat.le_of_ble_eq_true rfl))) (sb_nx (x_one, x_two) rfl (wk (fun js w => ⟨[], []⟩) (fun _ _ => rfl))) (Nat.le_of_ble_eq_true rfl)) (fun v1 => (sb_par2 (c1 := 0) (c2 := 0) (fun x_low x_high => (fun js w => [.val v1.1, .val v1.2, .val x_low, .val x_high])) (sm_consz (sm_B (sm_consz (sm_var fun _ _ => rfl) sm_nil)) (sm_consz (sm_var fun _ _ => rfl) sm_nil)) (fun _ _ => ⟨(Nat.le_of_ble_eq_true rfl), (Nat.le_of_ble_eq_true rfl)⟩) (fun _ _ _ _ => rfl) (fun x_low x_high => (sb_while (c1 := 0) (c2 := 0) (c3 := 0) (fun (s2 : D × D) => (fun js w => [.val v1.1, .val v1.2, .val s2.2, .val s2.1])) (x_high, x_low) (wk (fun js w => ⟨[], []⟩) (fun _ _ => rfl)) (fun s2 => (sm_mT (sm_2z (sm_var fun _ _ => rfl) sm_C))) (fun s2 => (sb_last (sb_par2 (c1 := 0) (c2 := 0) (fun x_low_2 x_high_2 => (fun js w => [.val v1.1, .val v1.2, .val x_low_2, .val x_high_2])) (sm_consz (sm_var fun _ _ => rfl) (sm_consz (sm_2z (sm_B (sm_consz (sm_var fun _ _ => rfl) sm_nil)) (sm_var fun _ _ => rfl)) sm_nil)) (fun _ _ => ⟨(Nat.le_of_ble_eq_true rfl), (Nat.le_of_ble_eq_true rfl)⟩) (fun _ _ _ _ => rfl) (fun x_low_2 x_high_2 => (sb_nx (x_high_2, x_low_2) (Or.inl rfl) (wk (fun js w => ⟨[], []⟩) (fun _ _ => rfl)))) (Nat.le_of_ble_eq_true rfl)))) (fun s3 => (sb_rr (sb_ret (wk_any _) (sm_tup (sm_consz (sm_2z (sm_var fun _ _ => rfl) (sm_var fun _ _ => rfl)) (sm_consz (sm_2z (sm_var fun _ _ => rfl) (sm_var fun _ _ => rfl)) sm_nil)))))) (Nat.le_of_ble_eq_true rfl))) (Nat.le_of_ble_eq_true rfl))) (Nat.le_of_ble_eq_true rfl)))
theorem sim__law_plus : SimF0 F__law_plus (u2 t__law_plus) := by
  unfold F__law_plus B__law_plus
  exact sf2 (fun x_one x_two => (fun js w => [.val x_one, .val x_two])) (fun _ _ _ _ => rfl) (fun x_one x_two => by
    unfold t__law_plus
    exact (sb_rr (sb_ret (wk_any _) (sm_callD (wk_any _) sim__law_part u2_len (sm_consz (sm_2z (sm_2z (sm_2z (sm_var fun _ _ => rfl) sm_C) (sm_2z (sm_var fun _ _ => rfl) sm_C)) (sm_2z (sm_2z (sm_var fun _ _ => rfl) sm_C) (sm_2z (sm_var fun _ _ => rfl) sm_C))) (sm_consz (sm_2z (sm_2z (sm_var fun _ _ => rfl) sm_C) (sm_2z (sm_var fun _ _ => rfl) sm_C)) sm_nil))))))
theorem sim__law_less : SimF0 F__law_less (u2 t__law_less) := by
  unfold F__law_less B__law_less
  exact sf2 (fun x_one x_two => (fun js w => [.val x_one, .val x_two])) (fun _ _ _ _ => rfl) (fun x_one x_two => by
    unfold t__law_less
    exact (sb_rr (sb_ret (wk_any _) (sm_callD (wk_any _) sim__law_part u2_len (sm_consz (sm_2z (sm_2z (sm_2z (sm_var fun _ _ => rfl) sm_C) (sm_2z (sm_var fun _ _ => rfl) sm_C)) (sm_2z (sm_2z (sm_var fun _ _ => rfl) sm_C) (sm_2z (sm_var fun _ _ => rfl) sm_C))) (sm_consz (sm_2z (sm_2z (sm_var fun _ _ => rfl) sm_C) (sm_2z (sm_var fun _ _ => rfl) sm_C)) sm_nil))))))
theorem sim__law_is_below : SimF0 F__law_is_below (u2 t__law_is_below) := by
  unfold F__law_is_below B__law_is_below
  exact sf2 (fun x_one x_two => (fun js w => [.val x_one, .val x_two])) (fun _ _ _ _ => rfl) (fun x_one x_two => by
    unfold t__law_is_below
    exact (sb_rr (sb_ret (wk_any _) (sm_2z (sm_2z (sm_2z (sm_var fun _ _ => rfl) sm_C) (sm_2z (sm_var fun _ _ => rfl) sm_C)) (sm_2z (sm_2z (sm_var fun _ _ => rfl) sm_C) (sm_2z (sm_var fun _ _ => rfl) sm_C))))))
theorem sim__law_total : SimF0 F__law_total (u1 t__law_total) := by
  unfold F__law_total B__law_total
  exact sf1 (fun x_some => (fun js w => [.val x_some, .no, .no])) (fun _ _ _ => rfl) (fun x_some => by
    unfold t__law_total
    exact (sb_set (c1 := 0) (c2 := 0) (fun x_found => (fun js w => [.val x_some, .val x_found, .no])) (sm_tup (sm_consz sm_C (sm_consz sm_C sm_nil))) (fun _ _ => (Nat.le_of_ble_eq_true rfl)) (fun _ _ _ => rfl) (fun x_found => (sb_for (c1 := 0) (c2 := 0) (c3 := 0) (c4 := 0) (fun (s1 : D) => (fun js w => [.val x_some, .val s1, oe (js.v.getD 2 none)])) (fun (s1 : D) (x_each : D) => (fun js w => [.val x_some, .val s1, .val x_each])) x_found (sm_row (sm_var fun _ _ => rfl)) (wk (fun js w => ⟨[], []⟩) (fun _ _ => rfl)) (fun s1 => (fun _ => sg_v (fun dd => (fun js w => [.val x_some, .val s1, .val dd])) (fun _ _ => (Nat.le_of_ble_eq_true rfl)) (fun _ _ _ => rfl))) (fun s1 x_each => (sb_last (sb_set (c1 := 0) (c2 := 0) (fun x_found_2 => (fun js w => [.val x_some, .val x_found_2, .val x_each])) (sm_callD (wk_any _) sim__law_plus u2_len (sm_consz (sm_var fun _ _ => rfl) (sm_consz (sm_var fun _ _ => rfl) sm_nil))) (fun _ _ => (Nat.le_of_ble_eq_true rfl)) (fun _ _ _ => rfl) (fun x_found_2 => (sb_nx x_found_2 (Or.inl rfl) (wk (fun js w => ⟨[none, none, some x_each], []⟩) (fun _ _ => rfl)))) (Nat.le_of_ble_eq_true rfl)))) (fun s2 => (sb_rr (sb_ret (wk_any _) (sm_var fun _ _ => rfl)))) (Nat.le_of_ble_eq_true rfl))) (Nat.le_of_ble_eq_true rfl)))
theorem sim__law_floors : SimFW 200004 0 F__law_floors (u1 t__law_floors) := by
  unfold F__law_floors B__law_floors
  exact sfI1_0 (cc := 200004) (g := (fun js w => [.cel .io w, js.a.getD 1 .no, js.a.getD 2 .no, js.a.getD 3 .no])) (fun _ _ => rfl) (fun x_most => (fun js w => [.cel .io w, .val x_most, .no, .no])) (fun _ _ _ => rfl) (fun x_most => by
    unfold t__law_floors
    exact (sb_set (c1 := 2) (c2 := 200002) (fun x_great => (fun js w => [.cel .io w, .val x_most, .val x_great, .no])) (sm_callI (c1 := 0) (c2 := 2) (wk (fun js w => ⟨[], [.no, .val x_most, .no, .no]⟩) (fun _ _ => rfl)) (fun _ _ => ⟨_, rfl, fun _ => rfl⟩) (by decide) sim__law_of u1_len' (by decide) (sj_late (fun _ _ => ⟨_, _, rfl⟩) (sa'_val (c1 := 0) (c2 := 0) (sm_tup (sm_consz sm_C (sm_consz sm_C (sm_consz sm_C sm_nil)))) sa'_nil (Nat.le_of_ble_eq_true rfl))) (Nat.le_of_ble_eq_true rfl)) (fun _ _ => (Nat.le_of_ble_eq_true rfl)) (fun _ _ _ => rfl) (fun x_great => (sb_rr (sb_ret (wk (fun js w => ⟨[], [.no, .val x_most, .val x_great, .no]⟩) (fun _ _ => rfl)) (sm_B (sm_cons (c1 := 200002) (c2 := 0) (sm_fz (sm_comp (c1 := 2) (c2 := 0) (c3 := 0) (c4 := 2) (fun js w => [.cel .io w, .val x_most, .val x_great, .no]) (fun (x_each : D) => (fun js w => [.cel .io w, .val x_most, .val x_great, .val x_each])) (sm_iOf (sm_cons (c1 := 2) (c2 := 0) (sm_2 (c1 := 0) (c2 := 2) sm_C (sm_callI (c1 := 0) (c2 := 2) (wk (fun js w => ⟨[], [.no, .val x_most, .val x_great, .no]⟩) (fun _ _ => rfl)) (fun _ _ => ⟨_, rfl, fun _ => rfl⟩) (by decide) sim__law_take u1_len' (by decide) (sj_late (fun _ _ => ⟨_, _, rfl⟩) (sa'_val (c1 := 0) (c2 := 0) (sm_var fun _ _ => rfl) sa'_nil (Nat.le_of_ble_eq_true rfl))) (Nat.le_of_ble_eq_true rfl)) (Nat.le_of_ble_eq_true rfl)) sm_nil (Nat.le_of_ble_eq_true rfl))) (fun _ => sg_v (fun dd => (fun js w => [.cel .io w, .val x_most, .val x_great, .val dd])) (fun _ _ => (Nat.le_of_ble_eq_true rfl)) (fun _ _ _ => rfl)) (fun x_each => sm_P) (fun x_each => (sm_2 (c1 := 2) (c2 := 0) (sm_callI (c1 := 0) (c2 := 2) (wk_any _) (fun _ _ => ⟨_, rfl, fun _ => rfl⟩) (by decide) sim__law_take u1_len' (by decide) (sj_late (fun _ _ => ⟨_, _, rfl⟩) (sa'_val (c1 := 0) (c2 := 0) (sm_2z (sm_2z sm_C (sm_var fun _ _ => rfl)) sm_C) sa'_nil (Nat.le_of_ble_eq_true rfl))) (Nat.le_of_ble_eq_true rfl)) (sm_var fun _ _ => rfl) (Nat.le_of_ble_eq_true rfl))) (fun _ _ => rfl) (fun _ _ => rfl) (fun _ js _ => ⟨js, rfl⟩) (fun _ _ js _ => ⟨js, rfl⟩) (Nat.le_of_ble_eq_true rfl))) sm_nil (Nat.le_of_ble_eq_true rfl)))))) (Nat.le_of_ble_eq_true rfl)))
theorem sim__law_waters : SimF0 F__law_waters (u2 t__law_waters) := by
  unfold F__law_waters B__law_waters
  exact sf2 (fun x_floors x_poured => (fun js w => [.val x_floors, .val x_poured, .no, .no, .no, .no])) (fun _ _ _ _ => rfl) (fun x_floors x_poured => by
    unfold t__law_waters
    exact (sb_ifseq (sb_if (c1 := 0) (c2 := 0) (c3 := 0) (sm_mT (sm_2z (sm_var fun _ _ => rfl) sm_C)) (sb_rr (sb_eq ret_seq (sb_ret (wk_any _) (sm_tup (sm_consz (sm_B (sm_consz (sm_fz (sm_comp (c1 := 0) (c2 := 0) (c3 := 0) (c4 := 0) (fun js w => [.val x_floors, .val x_poured, .no, .no, .no, .no]) (fun (x_floor : D) => (fun js w => [.val x_floors, .val x_poured, .no, .no, .no, .val x_floor])) (sm_row (sm_var fun _ _ => rfl)) (fun _ => sg_v (fun dd => (fun js w => [.val x_floors, .val x_poured, .no, .no, .no, .val dd])) (fun _ _ => (Nat.le_of_ble_eq_true rfl)) (fun _ _ _ => rfl)) (fun x_floor => sm_P) (fun x_floor => (sm_tup (sm_consz sm_C (sm_consz sm_C sm_nil)))) (fun _ _ => rfl) (fun _ _ => rfl) (fun _ js _ => ⟨js, rfl⟩) (fun _ _ js _ => ⟨js, rfl⟩) (Nat.le_of_ble_eq_true rfl))) sm_nil)) (sm_consz sm_C sm_nil)))))) (sb_nxseq (sb_set (c1 := 0) (c2 := 0) (fun x_low => (fun js w => [.val x_floors, .val x_poured, .val x_low, .no, .no, .no])) (sm_fz (sm_lB (sm_consz (sm_var fun _ _ => rfl) sm_nil))) (fun _ _ => (Nat.le_of_ble_eq_true rfl)) (fun _ _ _ => rfl) (fun x_low => (sb_forX (c1 := 0) (c2 := 0) (c3 := 0) (c4 := 0) (fun (s1 : Unit) => (fun js w => [.val x_floors, .val x_poured, .val x_low, oe (js.v.getD 3 none), oe (js.v.getD 4 none), .no])) (fun (s1 : Unit) (x_many : D) => (fun js w => [.val x_floors, .val x_poured, .val x_low, .val x_many, oe (js.v.getD 4 none), .no])) () (fun d => d) (fun _ => rfl) (fun _ => Or.inl rfl) (fun _ => wk_refl _) (sm_iOf (sm_consz sm_C (sm_consz (sm_2z (sm_B (sm_consz (sm_var fun _ _ => rfl) sm_nil)) sm_C) sm_nil))) (wk (fun js w => ⟨[], []⟩) (fun _ _ => rfl)) (fun s1 => (fun _ => sg_v (fun dd => (fun js w => [.val x_floors, .val x_poured, .val x_low, .val dd, oe (js.v.getD 4 none), .no])) (fun _ _ => (Nat.le_of_ble_eq_true rfl)) (fun _ _ _ => rfl))) (fun s1 x_many => (sb_set (c1 := 0) (c2 := 0) (fun x_level => (fun js w => [.val x_floors, .val x_poured, .val x_low, .val x_many, .val x_level, .no])) (sm_callD (wk_any _) sim__law_part u2_len (sm_consz (sm_2z (sm_var fun _ _ => rfl) (sm_B (sm_consz (sm_cutz (sm_var fun _ _ => rfl) sm_none (sm_oint (sm_var fun _ _ => rfl))) sm_nil))) (sm_consz (sm_var fun _ _ => rfl) sm_nil))) (fun _ _ => (Nat.le_of_ble_eq_true rfl)) (fun _ _ _ => rfl) (fun x_level => (sb_last (sb_ifseq (sb_if (c1 := 0) (c2 := 0) (c3 := 0) (sm_tOrz (sm_mT (sm_2z (sm_var fun _ _ => rfl) (sm_B (sm_consz (sm_var fun _ _ => rfl) sm_nil)))) (sm_tNot (sm_tru (sm_callD (wk_any _) sim__law_is_below u2_len (sm_consz (sm_tup (sm_consz (sm_2z (sm_var fun _ _ => rfl) (sm_var fun _ _ => rfl)) (sm_consz sm_C sm_nil))) (sm_consz (sm_var fun _ _ => rfl) sm_nil)))))) (sb_eq ret_seq (sb_retX (fun _ => rfl) (fun _ => (wk_any _)) (sm_tup (sm_consz (sm_B (sm_consz (sm_fz (sm_comp (c1 := 0) (c2 := 0) (c3 := 0) (c4 := 0) (fun js w => [.val x_floors, .val x_poured, .val x_low, .val x_many, .val x_level, .no]) (fun (x_floor_2 : D) => (fun js w => [.val x_floors, .val x_poured, .val x_low, .val x_many, .val x_level, .val x_floor_2])) (sm_row (sm_var fun _ _ => rfl)) (fun _ => sg_v (fun dd => (fun js w => [.val x_floors, .val x_poured, .val x_low, .val x_many, .val x_level, .val dd])) (fun _ _ => (Nat.le_of_ble_eq_true rfl)) (fun _ _ _ => rfl)) (fun x_floor_2 => sm_P) (fun x_floor_2 => (sm_ifz (sm_tru (sm_callD (wk_any _) sim__law_is_below u2_len (sm_consz (sm_tup (sm_consz (sm_var fun _ _ => rfl) (sm_consz sm_C sm_nil))) (sm_consz (sm_var fun _ _ => rfl) sm_nil)))) (sm_callD (wk_any _) sim__law_less u2_len (sm_consz (sm_var fun _ _ => rfl) (sm_consz (sm_tup (sm_consz (sm_var fun _ _ => rfl) (sm_consz sm_C sm_nil))) sm_nil))) (sm_tup (sm_consz sm_C (sm_consz sm_C sm_nil))))) (fun _ _ => rfl) (fun _ _ => rfl) (fun _ js _ => ⟨js, rfl⟩) (fun _ _ js _ => ⟨js, rfl⟩) (Nat.le_of_ble_eq_true rfl))) sm_nil)) (sm_consz (sm_var fun _ _ => rfl) sm_nil))))) (sb_nxseq (sb_nx (Lx.go ()) (Or.inl rfl) (wk (fun js w => ⟨[none, none, none, some x_many, some x_level, none], []⟩) (fun _ _ => rfl)))) (Nat.le_of_ble_eq_true rfl))))) (Nat.le_of_ble_eq_true rfl))) (fun s2 => (sb_rr (sb_ret (wk_any _) sm_C))) (Nat.le_of_ble_eq_true rfl))) (Nat.le_of_ble_eq_true rfl))) (Nat.le_of_ble_eq_true rfl))))
theorem sim__law_poured_for : SimF0 F__law_poured_for (u2 t__law_poured_for) := by
  unfold F__law_poured_for B__law_poured_for
  exact sf2 (fun x_floors x_height => (fun js w => [.val x_floors, .val x_height, .no])) (fun _ _ _ _ => rfl) (fun x_floors x_height => by
    unfold t__law_poured_for
    exact (sb_rr (sb_ret (wk_any _) (sm_callD (wk_any _) sim__law_total u1_len (sm_consz (sm_fz (sm_comp (c1 := 0) (c2 := 0) (c3 := 0) (c4 := 0) (fun js w => [.val x_floors, .val x_height, .no]) (fun (x_floor : D) => (fun js w => [.val x_floors, .val x_height, .val x_floor])) (sm_row (sm_var fun _ _ => rfl)) (fun _ => sg_v (fun dd => (fun js w => [.val x_floors, .val x_height, .val dd])) (fun _ _ => (Nat.le_of_ble_eq_true rfl)) (fun _ _ _ => rfl)) (fun x_floor => (sm_tru (sm_callD (wk_any _) sim__law_is_below u2_len (sm_consz (sm_tup (sm_consz (sm_var fun _ _ => rfl) (sm_consz sm_C sm_nil))) (sm_consz (sm_var fun _ _ => rfl) sm_nil))))) (fun x_floor => (sm_callD (wk_any _) sim__law_less u2_len (sm_consz (sm_var fun _ _ => rfl) (sm_consz (sm_tup (sm_consz (sm_var fun _ _ => rfl) (sm_consz sm_C sm_nil))) sm_nil)))) (fun _ _ => rfl) (fun _ _ => rfl) (fun _ js _ => ⟨js, rfl⟩) (fun _ _ js _ => ⟨js, rfl⟩) (Nat.le_of_ble_eq_true rfl))) sm_nil)))))
theorem sim__law_is_told : SimFW 6 0 F__law_is_told (u3 t__law_is_told) := by
  unfold F__law_is_told B__law_is_told
  exact sfI3_0 (cc := 6) (g := (fun js w => [.cel .io w, js.a.getD 1 .no, js.a.getD 2 .no, js.a.getD 3 .no, js.a.getD 4 .no, js.a.getD 5 .no, js.a.getD 6 .no, js.a.getD 7 .no, js.a.getD 8 .no])) (fun _ _ => rfl) (fun x_floors x_poured x_height => (fun js w => [.cel .io w, .val x_floors, .val x_poured, .val x_height, .no, .no, .no, .no, .no])) (fun _ _ _ _ _ => rfl) (fun x_floors x_poured x_height => by
    unfold t__law_is_told
    exact (sb_set (c1 := 0) (c2 := 6) (fun x_due => (fun js w => [.cel .io w, .val x_floors, .val x_poured, .val x_height, .val x_due, .no, .no, .no, .no])) (sm_2z (sm_callD (wk (fun js w => ⟨[], [.no, .val x_floors, .val x_poured, .val x_height, .no, .no, .no, .no, .no]⟩) (fun _ _ => rfl)) sim__law_waters u2_len (sm_consz (sm_var fun _ _ => rfl) (sm_consz (sm_var fun _ _ => rfl) sm_nil))) sm_C) (fun _ _ => (Nat.le_of_ble_eq_true rfl)) (fun _ _ _ => rfl) (fun x_due => (sb_set (c1 := 2) (c2 := 4) (fun x_told => (fun js w => [.cel .io w, .val x_floors, .val x_poured, .val x_height, .val x_due, .val x_told, .no, .no, .no])) (sm_if (c1 := 2) (c2 := 0) (c3 := 0) (sm_mT (sm_2 (c1 := 2) (c2 := 0) (sm_callI (c1 := 0) (c2 := 2) (wk (fun js w => ⟨[], [.no, .val x_floors, .val x_poured, .val x_height, .val x_due, .no, .no, .no, .no]⟩) (fun _ _ => rfl)) (fun _ _ => ⟨_, rfl, fun _ => rfl⟩) (by decide) sim__law_take u1_len' (by decide) (sj_late (fun _ _ => ⟨_, _, rfl⟩) (sa'_val (c1 := 0) (c2 := 0) sm_C sa'_nil (Nat.le_of_ble_eq_true rfl))) (Nat.le_of_ble_eq_true rfl)) sm_C (Nat.le_of_ble_eq_true rfl))) (sm_callD (wk (fun js w => ⟨[], [.no, .val x_floors, .val x_poured, .val x_height, .val x_due, .no, .no, .no, .no]⟩) (fun _ _ => rfl)) sim_flood_level u2_len (sm_consz (sm_var fun _ _ => rfl) (sm_consz (sm_var fun _ _ => rfl) sm_nil))) (sm_callKw (wk (fun js w => ⟨[], [.no, .val x_floors, .val x_poured, .val x_height, .val x_due, .no, .no, .no, .no]⟩) (fun _ _ => rfl)) sim_flood_level u2_len (sm_consz (sm_var fun _ _ => rfl) (sm_consz (sm_var fun _ _ => rfl) sm_nil))) (Nat.le_of_ble_eq_true rfl)) (fun _ _ => (Nat.le_of_ble_eq_true rfl)) (fun _ _ _ => rfl) (fun x_told => (sb_ifseq (sb_if (c1 := 0) (c2 := 0) (c3 := 4) (sm_tOrz (sm_tNot (sm_tru (sm_callD (wk (fun js w => ⟨[], [.no, .val x_floors, .val x_poured, .val x_height, .val x_due, .val x_told, .no, .no, .no]⟩) (fun _ _ => rfl)) (sim__law_same 10) u2_len (sm_consz (sm_var fun _ _ => rfl) (sm_consz (sm_var fun _ _ => rfl) sm_nil))))) (sm_mT (sm_2z (sm_2z (sm_var fun _ _ => rfl) sm_C) (sm_2z (sm_var fun _ _ => rfl) sm_C)))) (sb_rr (sb_eq ret_seq (sb_ret (wk (fun js w => ⟨[], [.no, .val x_floors, .val x_poured, .val x_height, .val x_due, .val x_told, .no, .no, .no]⟩) (fun _ _ => rfl)) sm_C))) (sb_nxseq (sb_ifseq (sb_if (c1 := 0) (c2 := 2) (c3 := 2) (sm_mT (sm_2z (sm_var fun _ _ => rfl) sm_C)) (sb_assoc (sb_set (c1 := 0) (c2 := 2) (fun x_rows => (fun js w => [.cel .io w, .val x_floors, .val x_poured, .val x_height, .val x_due, .val x_told, .no, .val x_rows, .no])) (sm_callD (wk (fun js w => ⟨[], [.no, .val x_floors, .val x_poured, .val x_height, .val x_due, .val x_told, .no, .no, .no]⟩) (fun _ _ => rfl)) sim_waters u2_len (sm_consz (sm_var fun _ _ => rfl) (sm_consz (sm_var fun _ _ => rfl) sm_nil))) (fun _ _ => (Nat.le_of_ble_eq_true rfl)) (fun _ _ _ => rfl) (fun x_rows => (sb_assoc (sb_ifseq (sb_if (c1 := 0) (c2 := 0) (c3 := 2) (sm_tOrz (sm_mT (sm_2z (sm_callD (wk (fun js w => ⟨[], [.no, .val x_floors, .val x_poured, .val x_height, .val x_due, .val x_told, .no, .val x_rows, .no]⟩) (fun _ _ => rfl)) sim_poured_for u2_len (sm_consz (sm_var fun _ _ => rfl) (sm_consz (sm_var fun _ _ => rfl) sm_nil))) (sm_tup (sm_consz (sm_var fun _ _ => rfl) (sm_consz sm_C sm_nil))))) (sm_tru (sm_B (sm_consz (sm_fz (sm_comp (c1 := 0) (c2 := 0) (c3 := 0) (c4 := 0) (fun js w => [.cel .io w, .val x_floors, .val x_poured, .val x_height, .val x_due, .val x_told, .no, .val x_rows, .no]) (fun (x_k : D) => (fun js w => [.cel .io w, .val x_floors, .val x_poured, .val x_height, .val x_due, .val x_told, .no, .val x_rows, .val x_k])) (sm_iOf (sm_consz (sm_B (sm_consz (sm_var fun _ _ => rfl) sm_nil)) sm_nil)) (fun _ => sg_v (fun dd => (fun js w => [.cel .io w, .val x_floors, .val x_poured, .val x_height, .val x_due, .val x_told, .no, .val x_rows, .val dd])) (fun _ _ => (Nat.le_of_ble_eq_true rfl)) (fun _ _ _ => rfl)) (fun x_k => sm_P) (fun x_k => (sm_andz (sm_2z (sm_2z (sm_2z (sm_var fun _ _ => rfl) (sm_var fun _ _ => rfl)) sm_C) sm_C) (sm_2z (sm_callD (wk_any _) sim__law_plus u2_len (sm_consz (sm_tup (sm_consz (sm_2z (sm_var fun _ _ => rfl) (sm_var fun _ _ => rfl)) (sm_consz sm_C sm_nil))) (sm_consz (sm_2z (sm_var fun _ _ => rfl) (sm_var fun _ _ => rfl)) sm_nil))) (sm_var fun _ _ => rfl)))) (fun _ _ => rfl) (fun _ _ => rfl) (fun _ js _ => ⟨js, rfl⟩) (fun _ _ js _ => ⟨js, rfl⟩) (Nat.le_of_ble_eq_true rfl))) sm_nil)))) (sb_rr (sb_eq ret_seq (sb_ret (wk (fun js w => ⟨[], [.no, .val x_floors, .val x_poured, .val x_height, .val x_due, .val x_told, .no, .val x_rows, .no]⟩) (fun _ _ => rfl)) sm_C))) (sb_nxseq (sb_ifseq (sb_if (c1 := 0) (c2 := 0) (c3 := 2) (sm_tAndz (sm_mT (sm_2z (sm_var fun _ _ => rfl) sm_C)) (sm_tNot (sm_tru (sm_callD (wk (fun js w => ⟨[], [.no, .val x_floors, .val x_poured, .val x_height, .val x_due, .val x_told, .no, .val x_rows, .no]⟩) (fun _ _ => rfl)) sim__law_is_below u2_len (sm_consz (sm_var fun _ _ => rfl) (sm_consz (sm_callD (wk (fun js w => ⟨[], [.no, .val x_floors, .val x_poured, .val x_height, .val x_due, .val x_told, .no, .val x_rows, .no]⟩) (fun _ _ => rfl)) sim_flood_level u2_len (sm_consz (sm_var fun _ _ => rfl) (sm_consz (sm_2z (sm_var fun _ _ => rfl) sm_C) sm_nil))) sm_nil)))))) (sb_rr (sb_eq ret_seq (sb_ret (wk (fun js w => ⟨[], [.no, .val x_floors, .val x_poured, .val x_height, .val x_due, .val x_told, .no, .val x_rows, .no]⟩) (fun _ _ => rfl)) sm_C))) (sb_nxseq (sb_set (c1 := 2) (c2 := 0) (fun x_own => (fun js w => [.cel .io w, .val x_floors, .val x_poured, .val x_height, .val x_due, .val x_told, .val x_own, .val x_rows, .no])) (sm_if (c1 := 2) (c2 := 0) (c3 := 0) (sm_mT (sm_2 (c1 := 2) (c2 := 0) (sm_callI (c1 := 0) (c2 := 2) (wk (fun js w => ⟨[], [.no, .val x_floors, .val x_poured, .val x_height, .val x_due, .val x_told, .no, .val x_rows, .no]⟩) (fun _ _ => rfl)) (fun _ _ => ⟨_, rfl, fun _ => rfl⟩) (by decide) sim__law_take u1_len' (by decide) (sj_late (fun _ _ => ⟨_, _, rfl⟩) (sa'_val (c1 := 0) (c2 := 0) sm_C sa'_nil (Nat.le_of_ble_eq_true rfl))) (Nat.le_of_ble_eq_true rfl)) sm_C (Nat.le_of_ble_eq_true rfl))) (sm_callD (wk (fun js w => ⟨[], [.no, .val x_floors, .val x_poured, .val x_height, .val x_due, .val x_told, .no, .val x_rows, .no]⟩) (fun _ _ => rfl)) sim_poured_for u2_len (sm_consz (sm_var fun _ _ => rfl) (sm_consz (sm_var fun _ _ => rfl) sm_nil))) (sm_callKw (wk (fun js w => ⟨[], [.no, .val x_floors, .val x_poured, .val x_height, .val x_due, .val x_told, .no, .val x_rows, .no]⟩) (fun _ _ => rfl)) sim_poured_for u2_len (sm_consz (sm_var fun _ _ => rfl) (sm_consz (sm_var fun _ _ => rfl) sm_nil))) (Nat.le_of_ble_eq_true rfl)) (fun _ _ => (Nat.le_of_ble_eq_true rfl)) (fun _ _ _ => rfl) (fun x_own => (sb_ifseq (sb_if (c1 := 0) (c2 := 0) (c3 := 0) (sm_tNot (sm_tru (sm_callD (wk (fun js w => ⟨[], [.no, .val x_floors, .val x_poured, .val x_height, .val x_due, .val x_told, .val x_own, .val x_rows, .no]⟩) (fun _ _ => rfl)) (sim__law_same 10) u2_len (sm_consz (sm_var fun _ _ => rfl) (sm_consz (sm_callD (wk (fun js w => ⟨[], [.no, .val x_floors, .val x_poured, .val x_height, .val x_due, .val x_told, .val x_own, .val x_rows, .no]⟩) (fun _ _ => rfl)) sim__law_poured_for u2_len (sm_consz (sm_var fun _ _ => rfl) (sm_consz (sm_var fun _ _ => rfl) sm_nil))) sm_nil))))) (sb_rr (sb_eq ret_seq (sb_ret (wk (fun js w => ⟨[], [.no, .val x_floors, .val x_poured, .val x_height, .val x_due, .val x_told, .val x_own, .val x_rows, .no]⟩) (fun _ _ => rfl)) sm_C))) (sb_nxseq (sb_rr (sb_ret (wk (fun js w => ⟨[], [.no, .val x_floors, .val x_poured, .val x_height, .val x_due, .val x_told, .val x_own, .val x_rows, .no]⟩) (fun _ _ => rfl)) (sm_andz (sm_not (sm_callD (wk (fun js w => ⟨[], [.no, .val x_floors, .val x_poured, .val x_height, .val x_due, .val x_told, .val x_own, .val x_rows, .no]⟩) (fun _ _ => rfl)) sim__law_is_below u2_len (sm_consz (sm_callD (wk (fun js w => ⟨[], [.no, .val x_floors, .val x_poured, .val x_height, .val x_due, .val x_told, .val x_own, .val x_rows, .no]⟩) (fun _ _ => rfl)) sim_poured_for u2_len (sm_consz (sm_var fun _ _ => rfl) (sm_consz (sm_callD (wk (fun js w => ⟨[], [.no, .val x_floors, .val x_poured, .val x_height, .val x_due, .val x_told, .val x_own, .val x_rows, .no]⟩) (fun _ _ => rfl)) sim__law_plus u2_len (sm_consz (sm_var fun _ _ => rfl) (sm_consz (sm_tup (sm_consz sm_C (sm_consz sm_C sm_nil))) sm_nil))) sm_nil))) (sm_consz (sm_var fun _ _ => rfl) sm_nil)))) (sm_callD (wk (fun js w => ⟨[], [.no, .val x_floors, .val x_poured, .val x_height, .val x_due, .val x_told, .val x_own, .val x_rows, .no]⟩) (fun _ _ => rfl)) (sim__law_same 10) u2_len (sm_consz (sm_callD (wk (fun js w => ⟨[], [.no, .val x_floors, .val x_poured, .val x_height, .val x_due, .val x_told, .val x_own, .val x_rows, .no]⟩) (fun _ _ => rfl)) sim_poured_for u2_len (sm_consz (sm_var fun _ _ => rfl) (sm_consz (sm_tup (sm_consz (sm_B (sm_consz (sm_var fun _ _ => rfl) sm_nil)) (sm_consz sm_C sm_nil))) sm_nil))) (sm_consz (sm_tup (sm_consz sm_C (sm_consz sm_C sm_nil))) sm_nil))))))) (Nat.le_of_ble_eq_true rfl)))) (Nat.le_of_ble_eq_true rfl))) (Nat.le_of_ble_eq_true rfl)))) (Nat.le_of_ble_eq_true rfl))))) (Nat.le_of_ble_eq_true rfl))) (sb_nxseq (sb_set (c1 := 2) (c2 := 0) (fun x_own_2 => (fun js w => [.cel .io w, .val x_floors, .val x_poured, .val x_height, .val x_due, .val x_told, .val x_own_2, .no, .no])) (sm_if (c1 := 2) (c2 := 0) (c3 := 0) (sm_mT (sm_2 (c1 := 2) (c2 := 0) (sm_callI (c1 := 0) (c2 := 2) (wk (fun js w => ⟨[], [.no, .val x_floors, .val x_poured, .val x_height, .val x_due, .val x_told, .no, .no, .no]⟩) (fun _ _ => rfl)) (fun _ _ => ⟨_, rfl, fun _ => rfl⟩) (by decide) sim__law_take u1_len' (by decide) (sj_late (fun _ _ => ⟨_, _, rfl⟩) (sa'_val (c1 := 0) (c2 := 0) sm_C sa'_nil (Nat.le_of_ble_eq_true rfl))) (Nat.le_of_ble_eq_true rfl)) sm_C (Nat.le_of_ble_eq_true rfl))) (sm_callD (wk (fun js w => ⟨[], [.no, .val x_floors, .val x_poured, .val x_height, .val x_due, .val x_told, .no, .no, .no]⟩) (fun _ _ => rfl)) sim_poured_for u2_len (sm_consz (sm_var fun _ _ => rfl) (sm_consz (sm_var fun _ _ => rfl) sm_nil))) (sm_callKw (wk (fun js w => ⟨[], [.no, .val x_floors, .val x_poured, .val x_height, .val x_due, .val x_told, .no, .no, .no]⟩) (fun _ _ => rfl)) sim_poured_for u2_len (sm_consz (sm_var fun _ _ => rfl) (sm_consz (sm_var fun _ _ => rfl) sm_nil))) (Nat.le_of_ble_eq_true rfl)) (fun _ _ => (Nat.le_of_ble_eq_true rfl)) (fun _ _ _ => rfl) (fun x_own_2 => (sb_ifseq (sb_if (c1 := 0) (c2 := 0) (c3 := 0) (sm_tNot (sm_tru (sm_callD (wk (fun js w => ⟨[], [.no, .val x_floors, .val x_poured, .val x_height, .val x_due, .val x_told, .val x_own_2, .no, .no]⟩) (fun _ _ => rfl)) (sim__law_same 10) u2_len (sm_consz (sm_var fun _ _ => rfl) (sm_consz (sm_callD (wk (fun js w => ⟨[], [.no, .val x_floors, .val x_poured, .val x_height, .val x_due, .val x_told, .val x_own_2, .no, .no]⟩) (fun _ _ => rfl)) sim__law_poured_for u2_len (sm_consz (sm_var fun _ _ => rfl) (sm_consz (sm_var fun _ _ => rfl) sm_nil))) sm_nil))))) (sb_rr (sb_eq ret_seq (sb_ret (wk (fun js w => ⟨[], [.no, .val x_floors, .val x_poured, .val x_height, .val x_due, .val x_told, .val x_own_2, .no, .no]⟩) (fun _ _ => rfl)) sm_C))) (sb_nxseq (sb_rr (sb_ret (wk (fun js w => ⟨[], [.no, .val x_floors, .val x_poured, .val x_height, .val x_due, .val x_told, .val x_own_2, .no, .no]⟩) (fun _ _ => rfl)) (sm_andz (sm_not (sm_callD (wk (fun js w => ⟨[], [.no, .val x_floors, .val x_poured, .val x_height, .val x_due, .val x_told, .val x_own_2, .no, .no]⟩) (fun _ _ => rfl)) sim__law_is_below u2_len (sm_consz (sm_callD (wk (fun js w => ⟨[], [.no, .val x_floors, .val x_poured, .val x_height, .val x_due, .val x_told, .val x_own_2, .no, .no]⟩) (fun _ _ => rfl)) sim_poured_for u2_len (sm_consz (sm_var fun _ _ => rfl) (sm_consz (sm_callD (wk (fun js w => ⟨[], [.no, .val x_floors, .val x_poured, .val x_height, .val x_due, .val x_told, .val x_own_2, .no, .no]⟩) (fun _ _ => rfl)) sim__law_plus u2_len (sm_consz (sm_var fun _ _ => rfl) (sm_consz (sm_tup (sm_consz sm_C (sm_consz sm_C sm_nil))) sm_nil))) sm_nil))) (sm_consz (sm_var fun _ _ => rfl) sm_nil)))) (sm_callD (wk (fun js w => ⟨[], [.no, .val x_floors, .val x_poured, .val x_height, .val x_due, .val x_told, .val x_own_2, .no, .no]⟩) (fun _ _ => rfl)) (sim__law_same 10) u2_len (sm_consz (sm_callD (wk (fun js w => ⟨[], [.no, .val x_floors, .val x_poured, .val x_height, .val x_due, .val x_told, .val x_own_2, .no, .no]⟩) (fun _ _ => rfl)) sim_poured_for u2_len (sm_consz (sm_var fun _ _ => rfl) (sm_consz (sm_tup (sm_consz (sm_B (sm_consz (sm_var fun _ _ => rfl) sm_nil)) (sm_consz sm_C sm_nil))) sm_nil))) (sm_consz (sm_tup (sm_consz sm_C (sm_consz sm_C sm_nil))) sm_nil))))))) (Nat.le_of_ble_eq_true rfl)))) (Nat.le_of_ble_eq_true rfl))) (Nat.le_of_ble_eq_true rfl)))) (Nat.le_of_ble_eq_true rfl)))) (Nat.le_of_ble_eq_true rfl))) (Nat.le_of_ble_eq_true rfl)))
theorem sim__law_right : SimFW 20002000000 0 F__law_right (u0 t__law_right) := by
  unfold F__law_right B__law_right
  exact sfI0_0 (cc := 20002000000) (g := (fun js w => [.cel .io w, js.a.getD 1 .no, js.a.getD 2 .no, js.a.getD 3 .no])) (fun _ _ => rfl) ((fun js w => [.cel .io w, .no, .no, .no])) (fun _ _ => rfl) (by
    unfold t__law_right
    exact (sb_forX (c1 := 0) (c2 := 0) (c3 := 200020) (c4 := 0) (fun (s1 : Unit) => (fun js w => [.cel .io w, oe (js.v.getD 1 none), oe (js.v.getD 2 none), oe (js.v.getD 3 none)])) (fun (s1 : Unit) (x_turn : D) => (fun js w => [.cel .io w, .val x_turn, oe (js.v.getD 2 none), oe (js.v.getD 3 none)])) () (fun d => d) (fun _ => rfl) (fun _ => Or.inl rfl) (fun _ => wk_refl _) (sm_iOf (sm_consz sm_C sm_nil)) (wk (fun js w => ⟨[], []⟩) (fun _ _ => rfl)) (fun s1 => (fun _ => sg_v (fun dd => (fun js w => [.cel .io w, .val dd, oe (js.v.getD 2 none), oe (js.v.getD 3 none)])) (fun _ _ => (Nat.le_of_ble_eq_true rfl)) (fun _ _ _ => rfl))) (fun s1 x_turn => (sb_set (c1 := 200004) (c2 := 16) (fun x_floors => (fun js w => [.cel .io w, .val x_turn, .val x_floors, oe (js.v.getD 3 none)])) (sm_callI (c1 := 0) (c2 := 200004) (wk (fun js w => ⟨[], [.no, .val x_turn, oe (js.v.getD 2 none), oe (js.v.getD 3 none)]⟩) (fun _ _ => rfl)) (fun _ _ => ⟨_, rfl, fun _ => rfl⟩) (by decide) sim__law_floors u1_len' (by decide) (sj_late (fun _ _ => ⟨_, _, rfl⟩) (sa'_val (c1 := 0) (c2 := 0) sm_C sa'_nil (Nat.le_of_ble_eq_true rfl))) (Nat.le_of_ble_eq_true rfl)) (fun _ _ => (Nat.le_of_ble_eq_true rfl)) (fun _ _ _ => rfl) (fun x_floors => (sb_set (c1 := 6) (c2 := 10) (fun x_height => (fun js w => [.cel .io w, .val x_turn, .val x_floors, .val x_height])) (sm_callD (wk (fun js w => ⟨[], [.no, .val x_turn, .val x_floors, oe (js.v.getD 3 none)]⟩) (fun _ _ => rfl)) sim__law_plus u2_len (sm_cons (c1 := 2) (c2 := 4) (sm_tup (sm_cons (c1 := 2) (c2 := 0) (sm_callI (c1 := 0) (c2 := 2) (wk (fun js w => ⟨[], [.no, .val x_turn, .val x_floors, oe (js.v.getD 3 none)]⟩) (fun _ _ => rfl)) (fun _ _ => ⟨_, rfl, fun _ => rfl⟩) (by decide) sim__law_of u1_len' (by decide) (sj_late (fun _ _ => ⟨_, _, rfl⟩) (sa'_val (c1 := 0) (c2 := 0) (sm_var fun _ _ => rfl) sa'_nil (Nat.le_of_ble_eq_true rfl))) (Nat.le_of_ble_eq_true rfl)) (sm_consz sm_C sm_nil) (Nat.le_of_ble_eq_true rfl))) (sm_cons (c1 := 4) (c2 := 0) (sm_callD (wk (fun js w => ⟨[], [.no, .val x_turn, .val x_floors, oe (js.v.getD 3 none)]⟩) (fun _ _ => rfl)) sim__law_part u2_len (sm_cons (c1 := 2) (c2 := 2) (sm_2 (c1 := 2) (c2 := 0) (sm_callI (c1 := 0) (c2 := 2) (wk (fun js w => ⟨[], [.no, .val x_turn, .val x_floors, oe (js.v.getD 3 none)]⟩) (fun _ _ => rfl)) (fun _ _ => ⟨_, rfl, fun _ => rfl⟩) (by decide) sim__law_take u1_len' (by decide) (sj_late (fun _ _ => ⟨_, _, rfl⟩) (sa'_val (c1 := 0) (c2 := 0) sm_C sa'_nil (Nat.le_of_ble_eq_true rfl))) (Nat.le_of_ble_eq_true rfl)) sm_C (Nat.le_of_ble_eq_true rfl)) (sm_cons (c1 := 2) (c2 := 0) (sm_2 (c1 := 0) (c2 := 2) sm_C (sm_callI (c1 := 0) (c2 := 2) (wk (fun js w => ⟨[], [.no, .val x_turn, .val x_floors, oe (js.v.getD 3 none)]⟩) (fun _ _ => rfl)) (fun _ _ => ⟨_, rfl, fun _ => rfl⟩) (by decide) sim__law_take u1_len' (by decide) (sj_late (fun _ _ => ⟨_, _, rfl⟩) (sa'_val (c1 := 0) (c2 := 0) sm_C sa'_nil (Nat.le_of_ble_eq_true rfl))) (Nat.le_of_ble_eq_true rfl)) (Nat.le_of_ble_eq_true rfl)) sm_nil (Nat.le_of_ble_eq_true rfl)) (Nat.le_of_ble_eq_true rfl))) sm_nil (Nat.le_of_ble_eq_true rfl)) (Nat.le_of_ble_eq_true rfl))) (fun _ _ => (Nat.le_of_ble_eq_true rfl)) (fun _ _ _ => rfl) (fun x_height => (sb_last (sb_ifseq (sb_if (c1 := 10) (c2 := 0) (c3 := 0) (sm_tNot (sm_tru (sm_callI (c1 := 4) (c2 := 6) (wk (fun js w => ⟨[], [.no, .val x_turn, .val x_floors, .val x_height]⟩) (fun _ _ => rfl)) (fun _ _ => ⟨_, rfl, fun _ => rfl⟩) (by decide) sim__law_is_told u3_len' (by decide) (sj_late (fun _ _ => ⟨_, _, rfl⟩) (sa'_val (c1 := 0) (c2 := 4) (sm_var fun _ _ => rfl) (sa'_val (c1 := 4) (c2 := 0) (sm_callI (c1 := 2) (c2 := 2) (wk (fun js w => ⟨[], [.no, .val x_turn, .val x_floors, .val x_height]⟩) (fun _ _ => rfl)) (fun _ _ => ⟨_, rfl, fun _ => rfl⟩) (by decide) sim__law_take u1_len' (by decide) (sj_late (fun _ _ => ⟨_, _, rfl⟩) (sa'_val (c1 := 2) (c2 := 0) (sm_callI (c1 := 0) (c2 := 2) (wk (fun js w => ⟨[], [.no, .val x_turn, .val x_floors, .val x_height]⟩) (fun _ _ => rfl)) (fun _ _ => ⟨_, rfl, fun _ => rfl⟩) (by decide) sim__law_of u1_len' (by decide) (sj_late (fun _ _ => ⟨_, _, rfl⟩) (sa'_val (c1 := 0) (c2 := 0) (sm_tup (sm_consz sm_C (sm_consz sm_C (sm_consz sm_C (sm_consz sm_C sm_nil))))) sa'_nil (Nat.le_of_ble_eq_true rfl))) (Nat.le_of_ble_eq_true rfl)) sa'_nil (Nat.le_of_ble_eq_true rfl))) (Nat.le_of_ble_eq_true rfl)) (sa'_val (c1 := 0) (c2 := 0) (sm_var fun _ _ => rfl) sa'_nil (Nat.le_of_ble_eq_true rfl)) (Nat.le_of_ble_eq_true rfl)) (Nat.le_of_ble_eq_true rfl))) (Nat.le_of_ble_eq_true rfl)))) (sb_eq ret_seq (sb_retX (fun _ => rfl) (fun _ => (wk (fun js w => ⟨[], [.no, .val x_turn, .val x_floors, .val x_height]⟩) (fun _ _ => rfl))) sm_C)) (sb_nxseq (sb_nx (Lx.go ()) (Or.inl rfl) (wk (fun js w => ⟨[none, some x_turn, some x_floors, some x_height], []⟩) (fun _ _ => rfl)))) (Nat.le_of_ble_eq_true rfl))))) (Nat.le_of_ble_eq_true rfl))) (Nat.le_of_ble_eq_true rfl))) (fun s2 => (sb_rr (sb_ret (wk (fun js w => ⟨[], [.no, oe (js.v.getD 1 none), oe (js.v.getD 2 none), oe (js.v.getD 3 none)]⟩) (fun _ _ => rfl)) (sm_callD (wk (fun js w => ⟨[], [.no, oe (js.v.getD 1 none), oe (js.v.getD 2 none), oe (js.v.getD 3 none)]⟩) (fun _ _ => rfl)) (sim__law_same 10) u2_len (sm_consz (sm_fz (sm_lst (sm_consz (sm_callD (wk (fun js w => ⟨[], [.no, oe (js.v.getD 1 none), oe (js.v.getD 2 none), oe (js.v.getD 3 none)]⟩) (fun _ _ => rfl)) sim_flood_level u2_len (sm_consz (sm_tup (sm_consz sm_C (sm_consz sm_C (sm_consz sm_C sm_nil)))) (sm_consz sm_C sm_nil))) (sm_consz (sm_callD (wk (fun js w => ⟨[], [.no, oe (js.v.getD 1 none), oe (js.v.getD 2 none), oe (js.v.getD 3 none)]⟩) (fun _ _ => rfl)) sim_poured_for u2_len (sm_consz (sm_tup (sm_consz sm_C (sm_consz sm_C (sm_consz sm_C sm_nil)))) (sm_consz (sm_tup (sm_consz sm_C (sm_consz sm_C sm_nil))) sm_nil))) (sm_consz (sm_callD (wk (fun js w => ⟨[], [.no, oe (js.v.getD 1 none), oe (js.v.getD 2 none), oe (js.v.getD 3 none)]⟩) (fun _ _ => rfl)) sim_flood_level u2_len (sm_consz (sm_tup (sm_consz sm_C (sm_consz sm_C sm_nil))) (sm_consz sm_C sm_nil))) (sm_consz (sm_callD (wk (fun js w => ⟨[], [.no, oe (js.v.getD 1 none), oe (js.v.getD 2 none), oe (js.v.getD 3 none)]⟩) (fun _ _ => rfl)) sim_poured_for u2_len (sm_consz (sm_tup (sm_consz sm_C (sm_consz sm_C sm_nil))) (sm_consz (sm_tup (sm_consz (sm_2z sm_C sm_C) (sm_consz sm_C sm_nil))) sm_nil))) sm_nil)))))) (sm_consz (sm_fz (sm_lst (sm_consz (sm_tup (sm_consz sm_C (sm_consz sm_C sm_nil))) (sm_consz (sm_tup (sm_consz sm_C (sm_consz sm_C sm_nil))) (sm_consz sm_C (sm_consz (sm_tup (sm_consz sm_C (sm_consz sm_C sm_nil))) sm_nil)))))) sm_nil)))))) (Nat.le_of_ble_eq_true rfl)))
theorem sim_law : SimF0 F_law (u1 t_law) := by
  unfold F_law B_law
  exact sf1 (fun x_script => (fun js w => [.val x_script, .no])) (fun _ _ _ => rfl) (fun x_script => by
    unfold t_law
    exact (sb_rr (sb_ret (wk_any _) (sm_B (sm_consz (sm_fz (sm_comp (c1 := 0) (c2 := 0) (c3 := 0) (c4 := 0) (fun js w => [.val x_script, .no]) (fun (x_lap : D) => (fun js w => [.val x_script, .val x_lap])) (sm_iOf (sm_consz (sm_B (sm_consz sm_C (sm_consz (sm_B (sm_consz (sm_B (sm_consz (sm_var fun _ _ => rfl) sm_nil)) (sm_consz sm_C sm_nil))) sm_nil))) sm_nil)) (fun _ => sg_v (fun dd => (fun js w => [.val x_script, .val dd])) (fun _ _ => (Nat.le_of_ble_eq_true rfl)) (fun _ _ _ => rfl)) (fun x_lap => sm_P) (fun x_lap => (sm_callN (c2 := 20002000000) (wk_any _) sim__law_right u0_len' (lebig rfl) (sn_new (c1 := 0) (c2 := 0) simW__law_well lenW__law_well (sm_consz (sm_var fun _ _ => rfl) (sm_consz (sm_var fun _ _ => rfl) sm_nil)) sn_nil (Nat.le_of_ble_eq_true rfl)))) (fun _ _ => rfl) (fun _ _ => rfl) (fun _ js _ => ⟨js, rfl⟩) (fun _ _ js _ => ⟨js, rfl⟩) (Nat.le_of_ble_eq_true rfl))) sm_nil)))))
end FL
namespace FL
theorem plain_law : Plain F_law := plain_of sim_law plain_t
end FL
open PySem PySem.W PyProof.Rows
set_option maxRecDepth 100000 in
set_option maxHeartbeats 0 in
theorem PySem.Challenge.cw_levelruns_k72_whole_flood_levels_holds : PySem.Challenge.rw_levelruns_k72_whole_flood_levels.Holds := by
  w_on; o_law; k_head; (case hw => w_witness2)
  k_fill
  refine FL.walkF (k := 14) (l := PySem.Challenge.rw_levelruns_k72_whole_flood_levels) rfl rfl ⟨rfl, by decide, by decide⟩ (fun w h Y => PySem.W.kIn_of Y) ?F
  case F =>
    intro w mg fa h KX G hmg
    refine' FL.all_mk FL.plain_law KX G hmg ?a0 ?l0 ?c0 ?k0 ?a1 ?l1 ?c1 ?k1 ?a2 ?l2 ?c2 ?k2 ?a3 ?l3 ?c3 ?k3 ?a4 ?l4 ?c4 ?k4 ?a5 ?l5 ?c5 ?k5 ?a6 ?l6 ?c6 ?k6 ?a7 ?l7 ?c7 ?k7 ?a8 ?l8 ?c8 ?k8 ?a9 ?l9 ?c9 ?k9 ?a10 ?l10 ?c10 ?k10 ?a11 ?l11 ?c11 ?k11 ?a12 ?l12 ?c12 ?k12 ?a13 ?l13 ?c13 ?k13 ?a14 ?l14 ?c14 ?k14 ?a15 ?l15 ?c15 ?k15 ?a16 ?l16 ?c16 ?k16 ?a17 ?l17 ?c17 ?k17 ?a18 ?l18 ?c18 ?k18 ?a19 ?l19 ?c19 ?k19 ?a20 ?l20 ?c20 ?k20 ?a21 ?l21 ?c21 ?k21 ?a22 ?l22 ?c22 ?k22 ?a23 ?l23 ?c23 ?k23 ?a24 ?l24 ?c24 ?k24 ?a25 ?l25 ?c25 ?k25 ?a26 ?l26 ?c26 ?k26 ?a27 ?l27 ?c27 ?k27 ?a28 ?l28 ?c28 ?k28 ?a29 ?l29 ?c29 ?k29 ?a30 ?l30 ?c30 ?k30 ?a31 ?l31 ?c31 ?k31 ?a32 ?l32 ?c32 ?k32 ?a33 ?l33 ?c33 ?k33 ?a34 ?l34 ?c34 ?k34 ?a35 ?l35 ?c35 ?k35 ?a36 ?l36 ?c36 ?k36 ?a37 ?l37 ?c37 ?k37 ?zb_abs ?zb_all ?zb_any ?zb_bool ?zb_dict ?zb_divmod ?zb_enumerate ?zb_int ?zb_isinstance ?zb_len ?zb_list ?zb_max ?zb_min ?zb_range ?zb_sorted ?zb_str ?zb_sum ?zb_tuple ?zc_FARTHEST ?zc_MOST_PLACES ?lc_NOUGHT ?zc_NOUGHT ?zg_gcd
    (case a0 => k_is)
    (case l0 => k_is)
    (case c0 => k_is)
    (case k0 => k_is)
    (case a1 => k_is)
    (case l1 => k_is)
    (case c1 => k_is)
    (case k1 => k_is)
    (case a2 => k_is)
    (case l2 => k_is)
    (case c2 => k_is)
    (case k2 => k_is)
    (case a3 => k_is)
    (case l3 => k_is)
    (case c3 => k_is)
    (case k3 => k_is)
    (case a4 => k_is)
    (case l4 => k_is)
    (case c4 => k_is)
    (case k4 => k_is)
    (case a5 => k_is)
    (case l5 => k_is)
    (case c5 => k_is)
    (case k5 => k_is)
    (case a6 => k_is)
    (case l6 => k_is)
    (case c6 => k_is)
    (case k6 => k_is)
    (case a7 => k_is)
    (case l7 => k_is)
    (case c7 => k_is)
    (case k7 => k_is)
    (case a8 => k_is)
    (case l8 => k_is)
    (case c8 => k_is)
    (case k8 => k_is)
    (case a9 => k_is)
    (case l9 => k_is)
    (case c9 => k_is)
    (case k9 => k_is)
    (case a10 => k_is)
    (case l10 => k_is)
    (case c10 => k_is)
    (case k10 => k_is)
    (case a11 => k_is)
    (case l11 => k_is)
    (case c11 => k_is)
    (case k11 => k_is)
    (case a12 => k_is)
    (case l12 => k_is)
    (case c12 => k_is)
    (case k12 => k_is)
    (case a13 => k_is)
    (case l13 => k_is)
    (case c13 => k_is)
    (case k13 => k_is)
    (case a14 => k_is)
    (case l14 => k_is)
    (case c14 => k_is)
    (case k14 => k_is)
    (case a15 => k_is)
    (case l15 => k_is)
    (case c15 => k_is)
    (case k15 => k_is)
    (case a16 => k_is)
    (case l16 => k_is)
    (case c16 => k_is)
    (case k16 => k_is)
    (case a17 => k_is)
    (case l17 => k_is)
    (case c17 => k_is)
    (case k17 => k_is)
    (case a18 => k_is)
    (case l18 => k_is)
    (case c18 => k_is)
    (case k18 => k_is)
    (case a19 => k_is)
    (case l19 => k_is)
    (case c19 => k_is)
    (case k19 => k_is)
    (case a20 => k_is)
    (case l20 => k_is)
    (case c20 => k_is)
    (case k20 => k_is)
    (case a21 => k_is)
    (case l21 => k_is)
    (case c21 => k_is)
    (case k21 => k_is)
    (case a22 => k_is)
    (case l22 => k_is)
    (case c22 => k_is)
    (case k22 => k_is)
    (case a23 => k_is)
    (case l23 => k_is)
    (case c23 => k_is)
    (case k23 => k_is)
    (case a24 => k_is)
    (case l24 => k_is)
    (case c24 => k_is)
    (case k24 => k_is)
    (case a25 => k_is)
    (case l25 => k_is)
    (case c25 => k_is)
    (case k25 => k_is)
    (case a26 => k_is)
    (case l26 => k_is)
    (case c26 => k_is)
    (case k26 => k_is)
    (case a27 => k_is)
    (case l27 => k_is)
    (case c27 => k_is)
    (case k27 => k_is)
    (case a28 => k_is)
    (case l28 => k_is)
    (case c28 => k_is)
    (case k28 => k_is)
    (case a29 => k_is)
    (case l29 => k_is)
    (case c29 => k_is)
    (case k29 => k_is)
    (case a30 => k_is)
    (case l30 => k_is)
    (case c30 => k_is)
    (case k30 => k_is)
    (case a31 => k_is)
    (case l31 => k_is)
    (case c31 => k_is)
    (case k31 => k_is)
    (case a32 => k_is)
    (case l32 => k_is)
    (case c32 => k_is)
    (case k32 => k_is)
    (case a33 => k_is)
    (case l33 => k_is)
    (case c33 => k_is)
    (case k33 => k_is)
    (case a34 => k_is)
    (case l34 => k_is)
    (case c34 => k_is)
    (case k34 => k_is)
    (case a35 => k_is)
    (case l35 => k_is)
    (case c35 => k_is)
    (case k35 => k_is)
    (case a36 => k_is)
    (case l36 => k_is)
    (case c36 => k_is)
    (case k36 => k_is)
    (case a37 => k_is)
    (case l37 => k_is)
    (case c37 => k_is)
    (case k37 => k_is)
    (case zb_abs => k_is)
    (case zb_all => k_is)
    (case zb_any => k_is)
    (case zb_bool => k_is)
    (case zb_dict => k_is)
    (case zb_divmod => k_is)
    (case zb_enumerate => k_is)
    (case zb_int => k_is)
    (case zb_isinstance => k_is)
    (case zb_len => k_is)
    (case zb_list => k_is)
    (case zb_max => k_is)
    (case zb_min => k_is)
    (case zb_range => k_is)
    (case zb_sorted => k_is)
    (case zb_str => k_is)
    (case zb_sum => k_is)
    (case zb_tuple => k_is)
    (case zc_FARTHEST => k_is)
    (case zc_MOST_PLACES => k_is)
    (case zc_NOUGHT => k_is)
    (case zg_gcd => k_is)
    (case lc_NOUGHT => k_is)
#print axioms PySem.Challenge.cw_levelruns_k72_whole_flood_levels_holds
