import PyProof.Rows.All
import Wide.All
import OpenK.AllK
import Wide.FinOn
import HandS.ForMost
import HandS.ForExc
import HandS.Flow
import HandS.IsInst
import HandS.Wide
import HandS.Gcd
import HandS.TupAny
import HandS.TupMul
import HandS.CallSlots
import HandS.WordsExc
import HandS.Walk
import HandS.Deep
import HandS.Defaults
import HandS.WideBits
import KE.GoesMore
import HandS.Zip
import HandS.Style
import HandS.CallLocal
import HandS.Dict
import KE.KRevSl
import HandS.EndBits
import PySem.Challenge.RW_levelruns_k06_whole_runs_of_anything_and
set_option Elab.async false
set_option linter.all false
set_option maxRecDepth 100000
set_option maxHeartbeats 4000000
/-! FL: a reading of defs as plain functions over plain data. Part 1: data, states, the monad, expressions. -/
namespace FL
open PySem PySem.Spec L2
/-! ### data -/
inductive D where
  | non | bl (b : Bool) | int (i : Int) | str (x : Str) | tup (ds : List D) | lst (ds : List D) | scr (ds : List D) | dct (kvs : List (Key × D)) | opq (v : V) | dfn (x : Str)
instance : Inhabited D := ⟨.non⟩
mutual
inductive Rep (K : PySem.W.Frag) (F : Hp) : V → D → Prop
  | non : Rep K F .non .non
  | bl (b : Bool) : Rep K F (.bl b) (.bl b)
  | int (i : Int) : Rep K F (.int i) (.int i)
  | str (x : Str) : Rep K F (.str x) (.str x)
  | tup {a : Addr} {vs : List V} {ds : List D} : SqT K F a vs → RepL K F vs ds → Rep K F (.ref a) (.tup ds)
  | lst {a : Addr} {vs : List V} {ds : List D} : F a = some (.lst vs) → RepL K F vs ds → Rep K F (.ref a) (.lst ds)
  | scr {a : Addr} {vs : List V} {ds : List D} : SqL K F a vs → RepL K F vs ds → Rep K F (.ref a) (.scr ds)
  | dct {a : Addr} {kvs : List (Key × V)} {kds : List (Key × D)} : F a = some (.dK kvs) → RepK K F kvs kds → Rep K F (.ref a) (.dct kds)
  | opq (v : V) : Rep K F v (.opq v)
  | dfn {x : Str} {f : Addr} : PySem.W.nsIn K mainGlobals x = some (some (.ref f)) → Rep K F (.ref f) (.dfn x)
inductive RepL (K : PySem.W.Frag) (F : Hp) : List V → List D → Prop
  | nil : RepL K F [] []
  | cons {v : V} {vs : List V} {d : D} {ds : List D} : Rep K F v d → RepL K F vs ds → RepL K F (v :: vs) (d :: ds)
inductive RepK (K : PySem.W.Frag) (F : Hp) : List (Key × V) → List (Key × D) → Prop
  | nil : RepK K F [] []
  | cons {k : Key} {v : V} {vs : List (Key × V)} {d : D} {ds : List (Key × D)} : Rep K F v d → RepK K F vs ds → RepK K F ((k, v) :: vs) ((k, d) :: ds)
end
theorem sameT {K : PySem.W.Frag} {H H' : Hp} {a : Addr} {xs : List V} (e : Same H H') (h : SqT K H a xs) : SqT K H' a xs := by
  cases h with
  | inl h =>
    cases h with
    | inl q => exact Or.inl (Or.inl (e a _ q))
    | inr q => exact Or.inl (Or.inr (q.elim fun o z => ⟨o, e a _ z⟩))
  | inr h => exact Or.inr h
mutual
theorem Rep.mono {K : PySem.W.Frag} {F F' : Hp} (e : Same F F') : ∀ {v : V} {d : D}, Rep K F v d → Rep K F' v d
  | _, _, .non => .non
  | _, _, .bl b => .bl b
  | _, _, .int i => .int i
  | _, _, .str x => .str x
  | _, _, .tup h r => .tup (sameT e h) (RepL.mono e r)
  | _, _, .lst h r => .lst (e _ _ h) (RepL.mono e r)
  | _, _, .scr h r => .scr (e.seq h) (RepL.mono e r)
  | _, _, .dct h r => .dct (e _ _ h) (RepK.mono e r)
  | _, _, .opq v => .opq v
  | _, _, .dfn h => .dfn h
theorem RepL.mono {K : PySem.W.Frag} {F F' : Hp} (e : Same F F') : ∀ {vs : List V} {ds : List D}, RepL K F vs ds → RepL K F' vs ds
  | _, _, .nil => .nil
  | _, _, .cons h r => .cons (Rep.mono e h) (RepL.mono e r)
theorem RepK.mono {K : PySem.W.Frag} {F F' : Hp} (e : Same F F') : ∀ {vs : List (Key × V)} {ds : List (Key × D)}, RepK K F vs ds → RepK K F' vs ds
  | _, _, .nil => .nil
  | _, _, .cons h r => .cons (Rep.mono e h) (RepK.mono e r)
end
theorem RepL.length {K : PySem.W.Frag} {F : Hp} : ∀ {vs : List V} {ds : List D}, RepL K F vs ds → vs.length = ds.length
  | _, _, .nil => rfl
  | _, _, .cons _ r => congrArg (· + 1) (RepL.length r)
theorem RepL.get {K : PySem.W.Frag} {F : Hp} : ∀ {vs : List V} {ds : List D} {i : Nat} {d : D}, RepL K F vs ds → ds[i]? = some d → ∃ v, vs[i]? = some v ∧ Rep K F v d
  | _, _, _, _, .nil, h => by cases h
  | _, _, 0, d, .cons (v := v) h _, e => by
    have e' : _ = d := Option.some.inj e
    subst e'
    exact ⟨v, rfl, h⟩
  | _, _, i + 1, d, .cons _ r, e => RepL.get (i := i) r e
theorem RepL.get' {K : PySem.W.Frag} {F : Hp} : ∀ {vs : List V} {ds : List D} {i : Nat} {v : V}, RepL K F vs ds → vs[i]? = some v → ∃ d, ds[i]? = some d ∧ Rep K F v d
  | _, _, _, _, .nil, h => by cases h
  | _, _, 0, v, .cons (d := d) h _, e => by
    have e' : _ = v := Option.some.inj e
    subst e'
    exact ⟨d, rfl, h⟩
  | _, _, i + 1, v, .cons _ r, e => RepL.get' (i := i) r e
theorem RepL.app {K : PySem.W.Frag} {F : Hp} : ∀ {vs us : List V} {ds es : List D}, RepL K F vs ds → RepL K F us es → RepL K F (vs ++ us) (ds ++ es)
  | _, _, _, _, .nil, q => q
  | _, _, _, _, .cons h r, q => .cons h (RepL.app r q)
theorem RepL.take {K : PySem.W.Frag} {F : Hp} : ∀ {vs : List V} {ds : List D} (n : Nat), RepL K F vs ds → RepL K F (vs.take n) (ds.take n)
  | _, _, 0, _ => .nil
  | _, _, _ + 1, .nil => .nil
  | _, _, n + 1, .cons h r => .cons h (RepL.take n r)
theorem RepL.drop {K : PySem.W.Frag} {F : Hp} : ∀ {vs : List V} {ds : List D} (n : Nat), RepL K F vs ds → RepL K F (vs.drop n) (ds.drop n)
  | _, _, 0, r => r
  | _, _, _ + 1, .nil => .nil
  | _, _, n + 1, .cons _ r => RepL.drop n r
theorem RepL.rev {K : PySem.W.Frag} {F : Hp} : ∀ {vs : List V} {ds : List D}, RepL K F vs ds → RepL K F vs.reverse ds.reverse
  | _, _, .nil => .nil
  | _, _, .cons (v := v) (d := d) h r => by
    rw [List.reverse_cons, List.reverse_cons]
    exact RepL.app (RepL.rev r) (.cons h .nil)
theorem RepL.set {K : PySem.W.Frag} {F : Hp} {v : V} {d : D} (h : Rep K F v d) : ∀ {vs : List V} {ds : List D} (n : Nat), RepL K F vs ds → RepL K F (vs.set n v) (ds.set n d)
  | _, _, _, .nil => .nil
  | _, _, 0, .cons _ r => .cons h r
  | _, _, n + 1, .cons q r => .cons q (RepL.set h n r)
/-! ### states -/
/-- own: made here; io: a caller's, changed here -/
inductive CK where | own | io
  deriving DecidableEq
inductive Ent where | no | val (d : D) | cel (k : CK) (ds : List D)
/-- the frozen heap, the heap, the slots, the plain slots -/
structure Cf where
  F : Hp
  H : Hp
  s : St
  r : List Ent
/-- x's slot i is the list at p that may change -/
def CelAt (x : Cf) (i : Nat) (k : CK) (p : Addr) : Prop := (∃ ds, x.r[i]? = some (.cel k ds)) ∧ x.s[i]? = some (some (.ref p))
def CelRep (K : PySem.W.Frag) (x : Cf) (p : Addr) (ds : List D) : Prop := ∃ us, RepL K x.F us ds ∧ x.H p = some (.lst us) ∧ x.F p = none
structure RSt (K : PySem.W.Frag) (x : Cf) : Prop where
  sub : Same x.F x.H
  len : x.s.length = x.r.length
  val : ∀ (i : Nat) (d : D), x.r[i]? = some (.val d) → ∃ v, x.s[i]? = some (some v) ∧ Rep K x.F v d
  cel : ∀ (i : Nat) (k : CK) (ds : List D), x.r[i]? = some (.cel k ds) → ∃ p, x.s[i]? = some (some (.ref p)) ∧ CelRep K x p ds
  dis : ∀ (i j : Nat) (k l : CK) (p : Addr), CelAt x i k p → CelAt x j l p → i = j
/-- what a step leaves: T: the slots that it may touch -/
structure Fr (T : List Nat) (x y : Cf) : Prop where
  ln : y.r.length = x.r.length
  ff : Same x.F y.F
  dm : ∀ a, y.H a = none → x.H a = none
  nw : ∀ a o, y.F a = some o → (∃ u, x.F a = some u) ∨ x.H a = none ∨ ∃ i, CelAt x i .own a
  hp : ∀ a o, x.H a = some o → (∀ i ∈ T, ∀ k, ¬ CelAt x i k a) → y.H a = some o
  cc : ∀ i k p, CelAt y i k p → (k = .own ∧ x.H p = none) ∨ CelAt x i k p
  un : ∀ i, i ∉ T → y.r[i]? = x.r[i]? ∧ y.s[i]? = x.s[i]?
theorem Fr.refl (T : List Nat) (x : Cf) : Fr T x x := ⟨rfl, Same.refl _, fun _ h => h, fun a o h => .inl ⟨o, h⟩, fun _ _ h _ => h, fun _ _ _ h => .inr h, fun _ _ => ⟨rfl, rfl⟩⟩
theorem Fr.trans {T : List Nat} {x y z : Cf} (a : Fr T x y) (b : Fr T y z) : Fr T x z where
  ln := b.ln.trans a.ln
  ff := a.ff.trans b.ff
  dm := fun p h => a.dm p (b.dm p h)
  nw := fun p o h => by
    rcases b.nw p o h with ⟨u, q⟩ | q | ⟨i, q⟩
    · exact a.nw p u q
    · exact .inr (.inl (a.dm p q))
    · rcases a.cc i _ p q with ⟨_, q⟩ | q
      · exact .inr (.inl q)
      · exact .inr (.inr ⟨i, q⟩)
  hp := fun p o h n => b.hp p o (a.hp p o h n) fun i hi k q => by
    rcases a.cc i k p q with ⟨_, z⟩ | z
    · rw [h] at z; cases z
    · exact n i hi k z
  cc := fun i k p h => by
    rcases b.cc i k p h with ⟨e, q⟩ | q
    · exact .inl ⟨e, a.dm p q⟩
    · exact a.cc i k p q
  un := fun i hi => ⟨(b.un i hi).1.trans (a.un i hi).1, (b.un i hi).2.trans (a.un i hi).2⟩
theorem Fr.mono {S T : List Nat} (h : ∀ i ∈ S, i ∈ T) {x y : Cf} (f : Fr S x y) : Fr T x y :=
  ⟨f.ln, f.ff, f.dm, f.nw, fun a o e n => f.hp a o e fun i hi => n i (h i hi), f.cc, fun i hi => f.un i fun z => hi (h i z)⟩
/-- new things alone -/
structure Ext (x y : Cf) : Prop where
  s : y.s = x.s
  r : y.r = x.r
  ff : Same x.F y.F
  hh : Same x.H y.H
  sub : Same y.F y.H
  nw : ∀ a o, y.F a = some o → (∃ u, x.F a = some u) ∨ x.H a = none
theorem Ext.refl {K : PySem.W.Frag} {x : Cf} (h : RSt K x) : Ext x x := ⟨rfl, rfl, Same.refl _, Same.refl _, h.sub, fun a o e => .inl ⟨o, e⟩⟩
theorem Same.dm {H H' : Hp} (e : Same H H') (a : Addr) (h : H' a = none) : H a = none := e.free h
theorem Ext.fr {x y : Cf} (e : Ext x y) (T : List Nat) : Fr T x y :=
  ⟨by rw [e.r], e.ff, fun a h => e.hh.free h, fun a o h => (e.nw a o h).elim .inl fun q => .inr (.inl q), fun a o h _ => e.hh a o h, fun i k p h => .inr (by unfold CelAt at h ⊢; rw [e.s, e.r] at h; exact h), fun i _ => by rw [e.s, e.r]; exact ⟨rfl, rfl⟩⟩
theorem Ext.rst {K : PySem.W.Frag} {x y : Cf} (e : Ext x y) (h : RSt K x) : RSt K y where
  sub := e.sub
  len := by rw [e.s, e.r]; exact h.len
  val := fun i d q => by
    rw [e.r] at q
    obtain ⟨v, h1, h2⟩ := h.val i d q
    exact ⟨v, by rw [e.s]; exact h1, h2.mono e.ff⟩
  cel := fun i k ds q => by
    rw [e.r] at q
    obtain ⟨p, h1, us, h2, h3, h4⟩ := h.cel i k ds q
    refine ⟨p, by rw [e.s]; exact h1, us, h2.mono e.ff, e.hh _ _ h3, ?_⟩
    cases w : y.F p with
    | none => rfl
    | some o =>
      rcases e.nw p o w with ⟨u, g⟩ | g
      · rw [h4] at g; cases g
      · rw [h3] at g; cases g
  dis := fun i j k l p h1 h2 => h.dis i j k l p (by unfold CelAt at h1 ⊢; rw [e.s, e.r] at h1; exact h1) (by unfold CelAt at h2 ⊢; rw [e.s, e.r] at h2; exact h2)
theorem Ext.trans {x y z : Cf} (a : Ext x y) (b : Ext y z) : Ext x z :=
  ⟨b.s.trans a.s, b.r.trans a.r, a.ff.trans b.ff, a.hh.trans b.hh, b.sub, fun p o h => by
    rcases b.nw p o h with ⟨u, q⟩ | q
    · exact a.nw p u q
    · exact .inr (a.hh.free q)⟩
theorem same_upd {H : Hp} {p : Addr} {o : HO} (h : H p = none) : Same H (upd H p o) := fun b u e => by rw [upd_ne (ne_of_none e h)]; exact e
/-- a new object, frozen at once -/
theorem Ext.new {K : PySem.W.Frag} {x : Cf} (h : RSt K x) {p : Addr} {o : HO} (hp : x.H p = none) : Ext x ⟨upd x.F p o, upd x.H p o, x.s, x.r⟩ := by
  have fp : x.F p = none := h.sub.free hp
  refine ⟨rfl, rfl, same_upd fp, same_upd hp, fun b u e => ?_, fun b u e => ?_⟩
  · by_cases hb : b = p
    · subst hb
      exact (show upd x.H b o b = some u by rw [upd_same]; exact (by rw [← e]; exact upd_same.symm))
    · show upd x.H p o b = some u
      rw [upd_ne hb]
      exact h.sub b u (by rw [← e]; exact (upd_ne hb).symm)
  · by_cases hb : b = p
    · subst hb; exact .inr hp
    · exact .inl ⟨u, by rw [← e]; exact (upd_ne hb).symm⟩
/-- a new object, not frozen -/
theorem Ext.raw {K : PySem.W.Frag} {x : Cf} (h : RSt K x) {p : Addr} {o : HO} (hp : x.H p = none) : Ext x ⟨x.F, upd x.H p o, x.s, x.r⟩ :=
  ⟨rfl, rfl, Same.refl _, same_upd hp, h.sub.trans (same_upd hp), fun _ u e => .inl ⟨u, e⟩⟩
/-! ### the monad -/
inductive R (α : Type) where
  | ok (a : α) (r : List Ent) | exc (c : Str) (pl : Option (Str × D)) (r : List Ent) | bad
abbrev M (α : Type) := List Ent → R α
def mP {α : Type} (a : α) : M α := fun r => .ok a r
def mB {α β : Type} (m : M α) (k : α → M β) : M β := fun r => match m r with
  | .ok a r' => k a r'
  | .exc c p r' => .exc c p r'
  | .bad => .bad
def mO {α : Type} (o : Option α) : M α := fun r => match o with
  | some a => .ok a r
  | none => .bad
/-- an exception of the class that the module names c, with its one attribute -/
def ExcRep (K : PySem.W.Frag) (mg : Str → Option Value) (y : Cf) (c : Str) (pl : Option (Str × D)) (cls : Value) (dx : Option Addr) : Prop :=
  mg c = some cls ∧ match pl with
    | none => True
    | some (n, d) => ∃ p v, dx = some p ∧ y.H p = some (.xd [(n, v)]) ∧ Rep K y.F v d
def Post {α : Type} (K : PySem.W.Frag) (mg : Str → Option Value) (T : List Nat) (W : WX) (x : Cf) (r : R α) (Q : α → Cf → Prop) : Prop := match r with
  | .ok a ρ => ∀ y : Cf, y.r = ρ → Fr T x y → RSt K y → Q a y
  | .exc c pl ρ => ∀ (y : Cf) (cls : Value) (dx : Option Addr), y.r = ρ → Fr T x y → RSt K y → ExcRep K mg y c pl cls dx → W cls dx y.s y.H
  | .bad => False
theorem Post.shift {α : Type} {K : PySem.W.Frag} {mg : Str → Option Value} {T : List Nat} {W : WX} {x y : Cf} {r : R α} {Q : α → Cf → Prop} (f : Fr T x y) (h : Post K mg T W x r Q) : Post K mg T W y r Q := by
  cases r with
  | ok a ρ => exact fun z e g s => h z e (f.trans g) s
  | exc c pl ρ => exact fun z cls dx e g s w => h z cls dx e (f.trans g) s w
  | bad => exact h
theorem Post.mono {α : Type} {K : PySem.W.Frag} {mg : Str → Option Value} {T : List Nat} {W : WX} {x : Cf} {r : R α} {Q Q' : α → Cf → Prop} (h : Post K mg T W x r Q) (i : ∀ a y, Fr T x y → RSt K y → Q a y → Q' a y) : Post K mg T W x r Q' := by
  cases r with
  | ok a ρ => exact fun z e g s => i a z g s (h z e g s)
  | exc c pl ρ => exact h
  | bad => exact h
/-- from a state to one with new things alone -/
theorem Post.here {α : Type} {K : PySem.W.Frag} {mg : Str → Option Value} {T : List Nat} {W : WX} {x y : Cf} {a : α} {Q : α → Cf → Prop} (h : Post K mg T W x (.ok a x.r) Q) (e : Ext x y) (s : RSt K x) : Q a y := h y e.r (e.fr T) (e.rst s)
/-! ### expressions -/
section
variable (X : Cx) (W : WX) (T : List Nat)
def EvE (te : TE) (f : M D) : Prop := ∀ (x : Cf) (Q : VK), RSt X.K x → Post X.K X.mg T W x (f x.r) (fun d y => y.s = x.s → ∀ v, Rep X.K y.F v d → Q v y.H) → te x.s x.H Q
def EvT (tt : TT) (f : M Bool) : Prop := ∀ (x : Cf) (Q : Bool → Hp → Prop), RSt X.K x → Post X.K X.mg T W x (f x.r) (fun b y => y.s = x.s → Q b y.H) → tt x.s x.H Q
/-- a new list -/
def FreshAt (K : PySem.W.Frag) (y : Cf) (p : Addr) (us : List V) (ds : List D) : Prop := y.H p = some (.lst us) ∧ y.F p = none ∧ RepL K y.F us ds
def EvL (te : TE) (f : M (List D)) : Prop := ∀ (x : Cf) (Q : VK), RSt X.K x →
  Post X.K X.mg T W x (f x.r) (fun ds y => y.s = x.s → ∀ p us, FreshAt X.K y p us ds → x.H p = none → (∀ i k, ¬ CelAt y i k p) → Q (.ref p) y.H) → te x.s x.H Q
inductive Arg where | val (d : D) | late (j : Nat)
inductive ArgR (K : PySem.W.Frag) (y : Cf) : V → Arg → Prop
  | val {v : V} {d : D} : Rep K y.F v d → ArgR K y v (.val d)
  | late {v : V} {j : Nat} : y.s[j]? = some (some v) → ArgR K y v (.late j)
inductive ArgsR (K : PySem.W.Frag) (y : Cf) : List V → List Arg → Prop
  | nil : ArgsR K y [] []
  | cons {v : V} {vs : List V} {a : Arg} {as : List Arg} : ArgR K y v a → ArgsR K y vs as → ArgsR K y (v :: vs) (a :: as)
def EvA (ta : TA) (f : M (List Arg)) : Prop := ∀ (x : Cf) (Q : List V → Hp → Prop), RSt X.K x → Post X.K X.mg T W x (f x.r) (fun as y => y.s = x.s → ∀ vs, ArgsR X.K y vs as → Q vs y.H) → ta x.s x.H Q
structure SE (e : Expr) (f : M D) : Prop where
  ex : ∃ te, PE X e te ∧ EvE X W T te f
structure ST (e : Expr) (f : M Bool) : Prop where
  ex : ∃ te, PT X e te ∧ EvT X W T te f
structure SL (e : Expr) (f : M (List D)) : Prop where
  ex : ∃ te, PE X e te ∧ EvL X W T te f
structure SA (es : List Expr) (f : M (List Arg)) : Prop where
  ex : ∃ ta, PA X es ta ∧ EvA X W T ta f
end
section
variable {X : Cx} {W : WX} {T : List Nat}
theorem ArgR.shift {K : PySem.W.Frag} {x y : Cf} {v : V} {a : Arg} (f : Same x.F y.F) (hs : y.s = x.s) (h : ArgR K x v a) : ArgR K y v a := by
  cases h with
  | val r => exact .val (r.mono f)
  | late q => exact .late (by rw [hs]; exact q)
/-- the first part runs, then what follows -/
theorem EvE.bind {α : Type} {te : TE} {f : M D} {k : D → M α} {x : Cf} {Q : VK} {Qf : α → Cf → Prop} (h : EvE X W T te f) (s : RSt X.K x) (p : Post X.K X.mg T W x (mB f k x.r) Qf)
    (n : ∀ d y, Fr T x y → RSt X.K y → y.s = x.s → (∀ v, Rep X.K y.F v d → Post X.K X.mg T W y (k d y.r) Qf → Q v y.H)) : te x.s x.H Q := by
  refine h x Q s ?_
  cases e : f x.r with
  | ok d ρ =>
    intro y hy fr sy hs v hv
    refine n d y fr sy hs v hv (Post.shift fr ?_)
    have e2 : mB f k x.r = k d y.r := by unfold mB; rw [e, hy]
    rw [← e2]; exact p
  | exc c pl ρ =>
    have e2 : mB f k x.r = .exc c pl ρ := by unfold mB; rw [e]
    rw [e2] at p; exact p
  | bad =>
    have e2 : mB f k x.r = .bad := by unfold mB; rw [e]
    rw [e2] at p; exact p
theorem EvT.bind {α : Type} {te : TT} {f : M Bool} {k : Bool → M α} {x : Cf} {Q : Bool → Hp → Prop} {Qf : α → Cf → Prop} (h : EvT X W T te f) (s : RSt X.K x) (p : Post X.K X.mg T W x (mB f k x.r) Qf)
    (n : ∀ d y, Fr T x y → RSt X.K y → y.s = x.s → Post X.K X.mg T W y (k d y.r) Qf → Q d y.H) : te x.s x.H Q := by
  refine h x Q s ?_
  cases e : f x.r with
  | ok d ρ =>
    intro y hy fr sy hs
    refine n d y fr sy hs (Post.shift fr ?_)
    have e2 : mB f k x.r = k d y.r := by unfold mB; rw [e, hy]
    rw [← e2]; exact p
  | exc c pl ρ =>
    have e2 : mB f k x.r = .exc c pl ρ := by unfold mB; rw [e]
    rw [e2] at p; exact p
  | bad =>
    have e2 : mB f k x.r = .bad := by unfold mB; rw [e]
    rw [e2] at p; exact p
theorem EvA.bind {α : Type} {te : TA} {f : M (List Arg)} {k : List Arg → M α} {x : Cf} {Q : List V → Hp → Prop} {Qf : α → Cf → Prop} (h : EvA X W T te f) (s : RSt X.K x) (p : Post X.K X.mg T W x (mB f k x.r) Qf)
    (n : ∀ d y, Fr T x y → RSt X.K y → y.s = x.s → (∀ vs, ArgsR X.K y vs d → Post X.K X.mg T W y (k d y.r) Qf → Q vs y.H)) : te x.s x.H Q := by
  refine h x Q s ?_
  cases e : f x.r with
  | ok d ρ =>
    intro y hy fr sy hs vs hv
    refine n d y fr sy hs vs hv (Post.shift fr ?_)
    have e2 : mB f k x.r = k d y.r := by unfold mB; rw [e, hy]
    rw [← e2]; exact p
  | exc c pl ρ =>
    have e2 : mB f k x.r = .exc c pl ρ := by unfold mB; rw [e]
    rw [e2] at p; exact p
  | bad =>
    have e2 : mB f k x.r = .bad := by unfold mB; rw [e]
    rw [e2] at p; exact p
end
end FL
namespace FL
open PySem PySem.Spec L2
section
variable {X : Cx} {W : WX} {T : List Nat}
/-! ### names, constants -/
def xVar (i : Nat) : M D := fun r => match r[i]? with
  | some (.val d) => .ok d r
  | _ => .bad
theorem se_var (i : Nat) {x : Str} {pos : Pos} (hN : X.N[i]? = some x := by rfl) (hv : Vis X.env.scope x := by first | exact Or.inl rfl | exact Or.inr (Or.inl rfl) | exact Or.inr (Or.inr rfl)) (hd : (x == ("__debug__" : Str)) = false := by decide)
    (hc : (x == ("__classdict__" : Str)) = false := by decide) : SE X W T (.Name x pos) (xVar i) := by
  refine ⟨_, pe_var (i := i) hN hv hd hc, fun x Q s p => ?_⟩
  unfold xVar at p
  split at p
  · rename_i d e
    obtain ⟨v, h1, h2⟩ := s.val i d e
    exact ⟨v, h1, p x rfl (Fr.refl T x) s rfl v h2⟩
  · exact p.elim
def xC (d : D) : M D := mP d
theorem ev_const {v : V} {d : D} (h : ∀ F, Rep X.K F v d) : EvE X W T (tC v) (xC d) := fun x Q s p => p x rfl (Fr.refl T x) s rfl v (h _)
theorem se_int {i : Int} {j pos} : SE X W T (.Constant (.int i) j pos) (xC (.int i)) := ⟨_, pe_int, ev_const fun _ => .int i⟩
theorem se_bl {b : Bool} {j pos} : SE X W T (.Constant (.bool b) j pos) (xC (.bl b)) := ⟨_, pe_bl, ev_const fun _ => .bl b⟩
theorem se_non {j pos} : SE X W T (.Constant .none j pos) (xC .non) := ⟨_, pe_non, ev_const fun _ => .non⟩
theorem se_str {x : Str} {j pos} : SE X W T (.Constant (.str x) j pos) (xC (.str x)) := ⟨_, pe_str, ev_const fun _ => .str x⟩
/-- a constant of the module -/
theorem se_glob {x : Str} {v : V} {u : Value} {d : D} {pos : Pos} (hm : X.mg x = some u) (r : RelV v u) (h : ∀ F, Rep X.K F v d) (hg : Gl X x := by rfl) (hd : (x == ("__debug__" : Str)) = false := by decide) : SE X W T (.Name x pos) (xC d) :=
  ⟨_, pe_glob hg hm r hd, ev_const h⟩
/-! ### two operands -/
/-- what a rule by values gives on data -/
def OpD (K : PySem.W.Frag) (r : R2) (op : D → D → Option D) : Prop :=
  ∀ (x : Cf) (v u : V) (d e z : D) (Q : VK), RSt K x → Rep K x.F v d → Rep K x.F u e → op d e = some z → (∀ y w, Ext x y → Rep K y.F w z → Q w y.H) → r v u x.H Q
def x2 (op : D → D → Option D) (a b : M D) : M D := mB a fun d => mB b fun e => mO (op d e)
theorem ev_op {r : R2} {op : D → D → Option D} {ta tb : TE} {fa fb : M D} (ho : OpD X.K r op) (ha : EvE X W T ta fa) (hb : EvE X W T tb fb) : EvE X W T (tOp r ta tb) (x2 op fa fb) := by
  intro x Q s p
  refine ha.bind s p fun d y f1 s1 e1 v hv p1 => ?_
  show tb x.s y.H _
  rw [← e1]
  refine hb.bind s1 p1 fun e z f2 s2 e2 u hu p2 => ?_
  cases q : op d e with
  | none => rw [q] at p2; exact p2.elim
  | some w =>
    rw [q] at p2
    exact ho z v u d e w Q s2 (hv.mono f2.ff) hu q fun y2 w2 ex hw => Post.here p2 ex s2 (ex.s.trans (e2.trans e1)) w2 hw
theorem se_op {op : Operator} {r : R2} {o : D → D → Option D} {a b : Expr} {pos : Pos} {fa fb : M D} (hr : OpR X (binaryOp op) r) (ho : OpD X.K r o) (ha : SE X W T a fa) (hb : SE X W T b fb) : SE X W T (.BinOp a op b pos) (x2 o fa fb) := by
  obtain ⟨ta, pa, ea⟩ := ha.ex
  obtain ⟨tb, pb, eb⟩ := hb.ex
  exact ⟨_, pe_op hr pa pb, ev_op ho ea eb⟩
theorem se_cmp {op : CmpOp} {r : R2} {o : D → D → Option D} {a b : Expr} {pos : Pos} {fa fb : M D} (hr : OpR X (compareOp op) r) (ho : OpD X.K r o) (ha : SE X W T a fa) (hb : SE X W T b fb) (hm : behindInMarks op b = false) : SE X W T (.Compare a [op] [b] pos) (x2 o fa fb) := by
  obtain ⟨ta, pa, ea⟩ := ha.ex
  obtain ⟨tb, pb, eb⟩ := hb.ex
  exact ⟨_, pe_cmpR hr pa pb hm, ev_op ho ea eb⟩
/-- the answer is a truth -/
def mT (m : M D) : M Bool := mB m fun d => match d with
  | .bl b => mP b
  | _ => fun _ => .bad
theorem ev_test {te : TE} {f : M D} (h : EvE X W T te f) : EvT X W T (tTest te) (mT f) := by
  intro x Q s p
  refine h.bind s p fun d y f1 s1 e1 v hv p1 => ?_
  cases d with
  | bl b =>
    cases hv
    exact ⟨b, rfl, p1 y rfl (Fr.refl T y) s1 (e1)⟩
  | _ => exact p1.elim
theorem st_cmp {op : CmpOp} {r : R2} {o : D → D → Option D} {a b : Expr} {pos : Pos} {fa fb : M D} (hr : OpR X (compareOp op) r) (ho : OpD X.K r o) (ha : SE X W T a fa) (hb : SE X W T b fb) (hm : behindInMarks op b = false) : ST X W T (.Compare a [op] [b] pos) (mT (x2 o fa fb)) := by
  obtain ⟨ta, pa, ea⟩ := ha.ex
  obtain ⟨tb, pb, eb⟩ := hb.ex
  exact ⟨_, pt_cmpR hr pa pb hm, ev_test (ev_op ho ea eb)⟩
end
end FL
namespace FL
open PySem PySem.Spec L2
section
variable {X : Cx} {W : WX} {T : List Nat} {K : PySem.W.Frag}
/-! ### arithmetic -/
theorem OpD.or {r r' : R2} {o o' : D → D → Option D} (h : OpD K r o) (h' : OpD K r' o') : OpD K (fun x y H Q => r x y H Q ∨ r' x y H Q) (fun d e => match o d e with | some z => some z | none => o' d e) := by
  intro x v u d e z Q s hv hu q k
  cases w : o d e with
  | some z' =>
    simp only [w] at q
    cases q
    exact .inl (h x v u d e _ Q s hv hu w k)
  | none =>
    simp only [w] at q
    exact .inr (h' x v u d e z Q s hv hu q k)
def intOp (c : Int → Int → Bool) (g : Int → Int → Int) : D → D → Option D
  | .int i, .int j => if c i j then some (.int (g i j)) else none
  | _, _ => none
theorem opd_int {C : Int → Int → Prop} {c : Int → Int → Bool} {g : Int → Int → Int} (h : ∀ i j, c i j = true → C i j) : OpD K (rI C fun i j => .int (g i j)) (intOp c g) := by
  intro x v u d e z Q s hv hu q k
  cases hv <;> try (simp [intOp] at q)
  cases hu <;> try (simp [intOp] at q)
  obtain ⟨q1, q2⟩ := q
  exact ⟨_, _, rfl, rfl, h _ _ q1, k x _ (Ext.refl s) (by rw [← q2]; exact .int _)⟩
theorem opd_int0 {g : Int → Int → Int} : OpD K (rI0 fun i j => .int (g i j)) (intOp (fun _ _ => true) g) := by
  intro x v u d e z Q s hv hu q k
  cases hv <;> try (simp [intOp] at q)
  cases hu <;> try (simp [intOp] at q)
  exact ⟨_, _, rfl, rfl, k x _ (Ext.refl s) (by rw [← q]; exact .int _)⟩
def cmpOp (g : Int → Int → Bool) : D → D → Option D
  | .int i, .int j => some (.bl (g i j))
  | _, _ => none
theorem opd_cmp {g : Int → Int → Bool} : OpD K (rI0 fun i j => .bl (g i j)) (cmpOp g) := by
  intro x v u d e z Q s hv hu q k
  cases hv <;> try (simp [cmpOp] at q)
  cases hu <;> try (simp [cmpOp] at q)
  exact ⟨_, _, rfl, rfl, k x _ (Ext.refl s) (by rw [← q]; exact .bl _)⟩
theorem opd_new {x : Cf} {Q : VK} {d : D} {o : Addr → V} (s : RSt K x) : True := trivial
theorem ext_tup {x : Cf} {vs : List V} {ds : List D} {p : Addr} (s : RSt K x) (hp : x.H p = none) (r : RepL K x.F vs ds) :
    Ext x ⟨upd x.F p (.tup vs), upd x.H p (.tup vs), x.s, x.r⟩ ∧ Rep K (upd x.F p (.tup vs)) (.ref p) (.tup ds) :=
  ⟨Ext.new s hp, .tup (SqT.of upd_same) (r.mono (same_upd (s.sub.free hp)))⟩
theorem ext_lst {x : Cf} {vs : List V} {ds : List D} {p : Addr} (s : RSt K x) (hp : x.H p = none) (r : RepL K x.F vs ds) :
    Ext x ⟨upd x.F p (.lst vs), upd x.H p (.lst vs), x.s, x.r⟩ ∧ Rep K (upd x.F p (.lst vs)) (.ref p) (.lst ds) :=
  ⟨Ext.new s hp, .lst upd_same (r.mono (same_upd (s.sub.free hp)))⟩
/-- the longest list or tuple that is reckoned with -/
def most : Nat := 100000
theorem most_line : most ≤ sizeLine := by rw [sizeLine_eq]; decide
theorem of_most {n : Nat} (h : decide (n ≤ most) = true) : n ≤ sizeLine := Nat.le_trans (of_decide_eq_true h) most_line
def catT : D → D → Option D
  | .tup a, .tup b => if decide (a.length + b.length ≤ most) then some (.tup (a ++ b)) else none
  | _, _ => none
theorem opd_catT : OpD K (rCatA K) catT := by
  intro x v u d e z Q s hv hu q k
  cases hv <;> try (simp [catT] at q)
  cases hu <;> try (simp [catT] at q)
  rename_i a vs ds ha ra b us es hb rb
  obtain ⟨q1, q2⟩ := q
  subst q2
  have ta := sameT s.sub ha
  have tb := sameT s.sub hb
  refine ⟨a, b, vs, us, rfl, rfl, ta, tb, ?_, fun e => ?_, fun _ e => ?_, fun _ _ p hp => ?_⟩
  · rw [ra.length, rb.length]; exact Nat.le_trans q1 most_line
  · subst e
    cases ra
    exact k x _ (Ext.refl s) (.tup hb rb)
  · subst e
    cases rb
    refine k x _ (Ext.refl s) ?_
    rw [List.append_nil]
    exact .tup ha ra
  · obtain ⟨h1, h2⟩ := ext_tup s hp (ra.app rb)
    exact k _ _ h1 h2
def catL : D → D → Option D
  | .lst a, .lst b => if decide (a.length + b.length ≤ most) then some (.lst (a ++ b)) else none
  | _, _ => none
theorem opd_catL : OpD K rCat catL := by
  intro x v u d e z Q s hv hu q k
  cases hv <;> try (simp [catL] at q)
  cases hu <;> try (simp [catL] at q)
  rename_i a vs ds ha ra b us es hb rb
  obtain ⟨q1, q2⟩ := q
  subst q2
  refine ⟨a, b, vs, us, rfl, rfl, s.sub _ _ ha, s.sub _ _ hb, ?_, fun p hp => ?_⟩
  · rw [ra.length, rb.length]; exact Nat.le_trans q1 most_line
  · obtain ⟨h1, h2⟩ := ext_lst s hp (ra.app rb)
    exact k _ _ h1 h2
def catS : D → D → Option D
  | .str a, .str b => if decide (a.length + b.length ≤ most) then some (.str (a ++ b)) else none
  | _, _ => none
theorem opd_catS : OpD K (fun x y H Q => ∃ i j, x = .str i ∧ y = .str j ∧ i.length + j.length ≤ sizeLine ∧ Q (.str (i ++ j)) H) catS := by
  intro x v u d e z Q s hv hu q k
  cases hv <;> try (simp [catS] at q)
  cases hu <;> try (simp [catS] at q)
  obtain ⟨q1, q2⟩ := q
  subst q2
  exact ⟨_, _, rfl, rfl, Nat.le_trans q1 most_line, k x _ (Ext.refl s) (.str _)⟩
def orD (o o' : D → D → Option D) : D → D → Option D := fun d e => match o d e with
  | some z => some z
  | none => o' d e
def addI : D → D → Option D := intOp (fun _ _ => true) fun i j => i + j
def addD : D → D → Option D
  | .int i, .int j => some (.int (i + j))
  | .tup a, .tup b => if decide (a.length + b.length ≤ most) then some (.tup (a ++ b)) else none
  | .lst a, .lst b => if decide (a.length + b.length ≤ most) then some (.lst (a ++ b)) else none
  | .str a, .str b => if decide (a.length + b.length ≤ most) then some (.str (a ++ b)) else none
  | _, _ => none
theorem OpD.le {r : R2} {o o' : D → D → Option D} (h : OpD K r o) (e : ∀ d e z, o' d e = some z → o d e = some z) : OpD K r o' := fun x v u d e' z Q s hv hu q k => h x v u d e' z Q s hv hu (e _ _ _ q) k
theorem opd_add : OpD K (fun x y H Q => rI0 (fun i j => .int (i + j)) x y H Q ∨ rCatA K x y H Q ∨ rCat x y H Q ∨ ∃ i j, x = .str i ∧ y = .str j ∧ i.length + j.length ≤ sizeLine ∧ Q (.str (i ++ j)) H) addD := by
  refine (OpD.or (opd_int0 (g := fun i j => i + j)) (OpD.or opd_catT (OpD.or opd_catL opd_catS))).le fun d e z h => ?_
  cases d <;> cases e <;> simp [addD] at h <;> simp [intOp, catT, catL, catS, h]
theorem se_add {a b : Expr} {pos : Pos} {fa fb : M D} (ha : SE X W T a fa) (hb : SE X W T b fb) : SE X W T (.BinOp a .Add b pos) (x2 addD fa fb) :=
  se_op (OpR.or op_add (OpR.or op_catA (OpR.or op_cat op_add_str))) opd_add ha hb
def subD : D → D → Option D
  | .int i, .int j => some (.int (i - j))
  | _, _ => none
theorem se_sub {a b : Expr} {pos : Pos} {fa fb : M D} (ha : SE X W T a fa) (hb : SE X W T b fb) : SE X W T (.BinOp a .Sub b pos) (x2 subD fa fb) :=
  se_op op_sub ((opd_int0 (g := fun i j => i - j)).le fun d e z h => by cases d <;> cases e <;> simp [subD] at h <;> simp [intOp, h]) ha hb
/-- a bound for the figures of a number -/
def bitsOf (i : Int) : Nat := i.natAbs.log2 + 1
theorem lt_bitsOf (i : Int) : i.natAbs < 2 ^ bitsOf i := Nat.lt_log2_self
def mulOk (i j : Int) : Bool := decide (bitsOf i + bitsOf j ≤ 134217728)
theorem mulOk_x {i j : Int} (h : mulOk i j = true) : CMulX i j := mulx_ok (lt_bitsOf i) (lt_bitsOf j) (of_decide_eq_true h)
/-- so many times a row -/
def timesL (ds : List D) (k : Nat) : List D := (List.replicate k ds).flatten
theorem RepL.times {F : Hp} {vs : List V} {ds : List D} (r : RepL K F vs ds) : ∀ k : Nat, RepL K F (List.replicate k vs).flatten (timesL ds k)
  | 0 => .nil
  | k + 1 => by
    unfold timesL
    rw [List.replicate_succ, List.replicate_succ, List.flatten_cons, List.flatten_cons]
    exact r.app (RepL.times r k)
def mulD : D → D → Option D
  | .int i, .int j => if mulOk i j then some (.int (i * j)) else none
  | .tup a, .int k => if decide (a ≠ [] ∧ 2 ≤ k ∧ k ≤ 1000 ∧ a.length ≤ 1000) then some (.tup (timesL a k.toNat)) else none
  | .lst a, .int k => if decide (-1000 ≤ k ∧ k ≤ 1000 ∧ a.length ≤ 1000) then some (.lst (timesL a k.toNat)) else none
  | _, _ => none
theorem opd_mul : OpD K (fun x y H Q => rI CMulX (fun i j => .int (i * j)) x y H Q ∨ rRepT K x y H Q ∨ rRep x y H Q) mulD := by
  intro x v u d e z Q s hv hu q k
  cases hv <;> cases hu <;> simp [mulD] at q
  · obtain ⟨q1, q2⟩ := q
    subst q2
    exact .inl ⟨_, _, rfl, rfl, mulOk_x q1, k x _ (Ext.refl s) (.int _)⟩
  · rename_i a vs ds ha ra n
    obtain ⟨⟨q0, q1, q2, q3⟩, q4⟩ := q
    subst q4
    refine .inr (.inl ⟨a, n, vs, rfl, rfl, sameT s.sub ha, ?_, q1, q2, ?_, fun p hp => ?_⟩)
    · intro e
      subst e
      cases ra
      exact q0 rfl
    · rw [ra.length]; exact q3
    · obtain ⟨h1, h2⟩ := ext_tup s hp (ra.times n.toNat)
      exact k _ _ h1 h2
  · rename_i a vs ds ha ra n
    obtain ⟨⟨q1, q2, q3⟩, q4⟩ := q
    subst q4
    refine .inr (.inr ⟨a, n, vs, rfl, rfl, s.sub _ _ ha, by omega, by omega, ?_, fun p hp => ?_⟩)
    · rw [ra.length, sizeLine_eq]
      have h1 : n.toNat ≤ 1000 := by omega
      exact Nat.le_trans (Nat.mul_le_mul q3 h1) (by decide)
    · obtain ⟨h1, h2⟩ := ext_lst s hp (ra.times n.toNat)
      exact k _ _ h1 h2
theorem se_mul {a b : Expr} {pos : Pos} {fa fb : M D} (ha : SE X W T a fa) (hb : SE X W T b fb) : SE X W T (.BinOp a .Mult b pos) (x2 mulD fa fb) :=
  se_op (OpR.or op_mulX (OpR.or op_repT op_rep)) opd_mul ha hb
def divOk (j : Int) : Bool := decide (0 < j ∧ bitsOf j ≤ 9000)
def divD : D → D → Option D
  | .int i, .int j => if divOk j then some (.int (i / j)) else if decide (j ≠ 0 ∧ j.natAbs < 1073741824) then some (.int (i.fdiv j)) else none
  | _, _ => none
theorem opd_div : OpD K (fun x y H Q => rI CDivW (fun i j => .int (i / j)) x y H Q ∨ rI CDivN (fun i j => .int (i.fdiv j)) x y H Q) divD := by
  refine (OpD.or (opd_int (C := CDivW) (c := fun _ j => divOk j) (g := fun i j => i / j) fun i j h => ?_) (opd_int (C := CDivN) (c := fun _ j => decide (j ≠ 0 ∧ j.natAbs < 1073741824)) (g := fun i j => i.fdiv j) fun i j h => (of_decide_eq_true h : j ≠ 0 ∧ j.natAbs < 1073741824))).le fun d e z h => ?_
  · obtain ⟨h1, h2⟩ := of_decide_eq_true h
    exact ⟨h1, by unfold bitsOf at h2; omega⟩
  · cases d <;> cases e <;> simp [divD] at h
    rename_i i j
    by_cases c : divOk j = true
    · simp [c] at h; simp [intOp, c, h]
    · simp [c] at h; simp [intOp, c, h]
theorem se_div {a b : Expr} {pos : Pos} {fa fb : M D} (ha : SE X W T a fa) (hb : SE X W T b fb) : SE X W T (.BinOp a .FloorDiv b pos) (x2 divD fa fb) :=
  se_op (OpR.or op_fdivW op_fdivN) opd_div ha hb
def modD : D → D → Option D
  | .int i, .int j => if decide (0 < j) then some (.int (i % j)) else if decide (j ≠ 0) then some (.int (i.fmod j)) else none
  | _, _ => none
theorem opd_mod : OpD K (fun x y H Q => rI (fun _ j => 0 < j) (fun i j => .int (i % j)) x y H Q ∨ rI (fun _ j => j ≠ 0) (fun i j => .int (i.fmod j)) x y H Q) modD := by
  refine (OpD.or (opd_int (C := fun _ j => 0 < j) (c := fun _ j => decide (0 < j)) (g := fun i j => i % j) fun i j h => of_decide_eq_true h) (opd_int (C := fun _ j => j ≠ 0) (c := fun _ j => decide (j ≠ 0)) (g := fun i j => i.fmod j) fun i j h => of_decide_eq_true h)).le fun d e z h => ?_
  cases d <;> cases e <;> simp [modD] at h
  rename_i i j
  by_cases c : 0 < j
  · simp [c] at h; simp [intOp, c, h]
  · simp [c] at h; simp [intOp, c, h]
theorem se_mod {a b : Expr} {pos : Pos} {fa fb : M D} (ha : SE X W T a fa) (hb : SE X W T b fb) : SE X W T (.BinOp a .Mod b pos) (x2 modD fa fb) :=
  se_op (OpR.or op_mod op_modN) opd_mod ha hb
def powD : D → D → Option D
  | .int i, .int j => if decide (0 ≤ j ∧ j ≤ 1000 ∧ i.natAbs < 2 ^ 64) then some (.int (i ^ j.toNat)) else none
  | _, _ => none
theorem se_pow {a b : Expr} {pos : Pos} {fa fb : M D} (ha : SE X W T a fa) (hb : SE X W T b fb) : SE X W T (.BinOp a .Pow b pos) (x2 powD fa fb) :=
  se_op op_pow ((opd_int (C := CPow) (c := fun i j => decide (0 ≤ j ∧ j ≤ 1000 ∧ i.natAbs < 2 ^ 64)) (g := fun i j => i ^ j.toNat) fun i j h => by
    obtain ⟨h1, h2, h3⟩ := of_decide_eq_true h
    exact ⟨h1, by omega, h3⟩).le fun d e z h => by cases d <;> cases e <;> simp [powD] at h <;> simp [intOp, h]) ha hb
/-! ### comparisons -/
def ltD : D → D → Option D
  | .int i, .int j => some (.bl (decide (i < j)))
  | _, _ => none
def leD : D → D → Option D
  | .int i, .int j => some (.bl (decide (i ≤ j)))
  | _, _ => none
def gtD : D → D → Option D
  | .int i, .int j => some (.bl (decide (j < i)))
  | _, _ => none
def geD : D → D → Option D
  | .int i, .int j => some (.bl (decide (j ≤ i)))
  | _, _ => none
theorem opd_lt : OpD K (rI0 fun i j => .bl (decide (i < j))) ltD := opd_cmp.le fun d e z h => by cases d <;> cases e <;> simp [ltD] at h <;> simp [cmpOp, h]
theorem opd_le : OpD K (rI0 fun i j => .bl (decide (i ≤ j))) leD := opd_cmp.le fun d e z h => by cases d <;> cases e <;> simp [leD] at h <;> simp [cmpOp, h]
theorem opd_gt : OpD K (rI0 fun i j => .bl (decide (j < i))) gtD := opd_cmp.le fun d e z h => by cases d <;> cases e <;> simp [gtD] at h <;> simp [cmpOp, h]
theorem opd_ge : OpD K (rI0 fun i j => .bl (decide (j ≤ i))) geD := opd_cmp.le fun d e z h => by cases d <;> cases e <;> simp [geD] at h <;> simp [cmpOp, h]
mutual
def toPy : D → Option PyData
  | .non => some .none
  | .bl b => some (.bool b)
  | .int i => some (.int i)
  | .str x => some (.str x)
  | .tup ds => (toPys ds).map .tuple
  | .lst ds => (toPys ds).map .list
  | .scr _ => none
  | .dct _ => none
  | .opq _ => none
  | .dfn _ => none
def toPys : List D → Option (List PyData)
  | [] => some []
  | d :: ds => match toPy d, toPys ds with
    | some p, some ps => some (p :: ps)
    | _, _ => none
end
mutual
theorem dp_of {F H : Hp} (e : Same F H) : ∀ {v : V} {d : D} {p : PyData}, Rep K F v d → toPy d = some p → Dp K H v p
  | _, _, _, .non, h => by cases h; exact .non
  | _, _, _, .bl b, h => by cases h; exact .bl b
  | _, _, _, .int i, h => by cases h; exact .int i
  | _, _, _, .str x, h => by cases h; exact .str x
  | _, _, _, .tup (ds := ds) ha r, h => by
    unfold toPy at h
    cases q : toPys ds with
    | none => rw [q] at h; cases h
    | some ps => rw [q] at h; cases h; exact .tup (sameT e ha) (dps_of e r q)
  | _, _, _, .lst (ds := ds) ha r, h => by
    unfold toPy at h
    cases q : toPys ds with
    | none => rw [q] at h; cases h
    | some ps => rw [q] at h; cases h; exact .lst (SqL.of (e _ _ ha)) (dps_of e r q)
  | _, _, _, .scr _ _, h => by cases h
  | _, _, _, .dct _ _, h => by cases h
  | _, _, _, .opq _, h => by cases h
  | _, _, _, .dfn _, h => by cases h
theorem dps_of {F H : Hp} (e : Same F H) : ∀ {vs : List V} {ds : List D} {ps : List PyData}, RepL K F vs ds → toPys ds = some ps → DpAll K H vs ps
  | _, _, _, .nil, h => by cases h; exact .nil
  | _, _, _, .cons (d := d) (ds := ds) h1 h2, h => by
    unfold toPys at h
    cases q : toPy d with
    | none => rw [q] at h; cases h
    | some p =>
      cases q2 : toPys ds with
      | none => rw [q, q2] at h; cases h
      | some ps => rw [q, q2] at h; cases h; exact .cons (dp_of e h1 q) (dps_of e h2 q2)
end
def eqB (d e : D) : Option Bool := match toPy d, toPy e with
  | some p, some q => if SeqAt.shaped p && SeqAt.shaped q then some (PyData.eqv p q) else none
  | _, _ => none
def eqD (d e : D) : Option D := (eqB d e).map .bl
def neD (d e : D) : Option D := (eqB d e).map fun b => .bl (!b)
theorem eqB_of {d e : D} {b : Bool} (h : eqB d e = some b) : ∃ p q, toPy d = some p ∧ toPy e = some q ∧ SeqAt.shaped p = true ∧ SeqAt.shaped q = true ∧ PyData.eqv p q = b := by
  unfold eqB at h
  split at h
  · rename_i p q hp hq
    split at h
    · rename_i c
      obtain ⟨c1, c2⟩ := Bool.and_eq_true_iff.mp c
      exact ⟨p, q, hp, hq, c1, c2, Option.some.inj h⟩
    · cases h
  · cases h
theorem opd_eq : OpD K (rEqD K) eqD := by
  intro x v u d e z Q s hv hu q k
  unfold eqD at q
  cases w : eqB d e with
  | none => rw [w] at q; cases q
  | some b =>
    rw [w] at q
    cases q
    obtain ⟨p, p', h1, h2, h3, h4, h5⟩ := eqB_of w
    refine ⟨p, p', dp_of s.sub hv h1, dp_of s.sub hu h2, h3, h4, k x _ (Ext.refl s) ?_⟩
    rw [h5]; exact .bl b
theorem opd_ne : OpD K (rNeD K) neD := by
  intro x v u d e z Q s hv hu q k
  unfold neD at q
  cases w : eqB d e with
  | none => rw [w] at q; cases q
  | some b =>
    rw [w] at q
    cases q
    obtain ⟨p, p', h1, h2, h3, h4, h5⟩ := eqB_of w
    refine ⟨p, p', dp_of s.sub hv h1, dp_of s.sub hu h2, h3, h4, k x _ (Ext.refl s) ?_⟩
    rw [h5]; exact .bl _
def isNon : D → Bool
  | .non => true
  | _ => false
theorem non_of {F : Hp} {v : V} {d : D} (h : Rep K F v d) (hq : ∀ w, d ≠ .opq w) : decide (v = .non) = isNon d := by
  cases h <;> simp [isNon]
  exact absurd rfl (hq v)
def isNoneD : D → D → Option D
  | .opq _, _ => none
  | d, .non => some (.bl (isNon d))
  | _, _ => none
def notNoneD : D → D → Option D
  | .opq _, _ => none
  | d, .non => some (.bl (!isNon d))
  | _, _ => none
theorem isNoneD_of {d e z : D} (q : isNoneD d e = some z) : e = .non ∧ (∀ w, d ≠ .opq w) ∧ z = .bl (isNon d) := by
  cases d <;> cases e <;> simp [isNoneD, isNon] at q ⊢ <;> exact q.symm
theorem notNoneD_of {d e z : D} (q : notNoneD d e = some z) : e = .non ∧ (∀ w, d ≠ .opq w) ∧ z = .bl (!isNon d) := by
  cases d <;> cases e <;> simp [notNoneD, isNon] at q ⊢ <;> exact q.symm
theorem opd_isN : OpD K (fun x y H Q => y = .non ∧ Q (.bl (decide (x = .non))) H) isNoneD := by
  intro x v u d e z Q s hv hu q k
  obtain ⟨h1, h2, h3⟩ := isNoneD_of q
  subst h1 h3
  cases hu
  refine ⟨rfl, k x _ (Ext.refl s) ?_⟩
  rw [non_of hv h2]
  exact .bl _
theorem opd_notN : OpD K (fun x y H Q => y = .non ∧ Q (.bl (!decide (x = .non))) H) notNoneD := by
  intro x v u d e z Q s hv hu q k
  obtain ⟨h1, h2, h3⟩ := notNoneD_of q
  subst h1 h3
  cases hu
  refine ⟨rfl, k x _ (Ext.refl s) ?_⟩
  rw [non_of hv h2]
  exact .bl _
/-- the comparisons as values, then as tests -/
theorem se_lt {a b : Expr} {pos : Pos} {fa fb : M D} (ha : SE X W T a fa) (hb : SE X W T b fb) : SE X W T (.Compare a [.Lt] [b] pos) (x2 ltD fa fb) := se_cmp op_lt opd_lt ha hb (nomark _)
theorem se_le {a b : Expr} {pos : Pos} {fa fb : M D} (ha : SE X W T a fa) (hb : SE X W T b fb) : SE X W T (.Compare a [.LtE] [b] pos) (x2 leD fa fb) := se_cmp op_le opd_le ha hb (nomark _)
theorem se_gt {a b : Expr} {pos : Pos} {fa fb : M D} (ha : SE X W T a fa) (hb : SE X W T b fb) : SE X W T (.Compare a [.Gt] [b] pos) (x2 gtD fa fb) := se_cmp op_gt opd_gt ha hb (nomark _)
theorem se_ge {a b : Expr} {pos : Pos} {fa fb : M D} (ha : SE X W T a fa) (hb : SE X W T b fb) : SE X W T (.Compare a [.GtE] [b] pos) (x2 geD fa fb) := se_cmp op_ge opd_ge ha hb (nomark _)
theorem se_eq {a b : Expr} {pos : Pos} {fa fb : M D} (hu : X.A.units + 64 < cLine) (ha : SE X W T a fa) (hb : SE X W T b fb) : SE X W T (.Compare a [.Eq] [b] pos) (x2 eqD fa fb) := se_cmp (op_eqD hu) opd_eq ha hb (nomark _)
theorem se_ne {a b : Expr} {pos : Pos} {fa fb : M D} (hu : X.A.units + 64 < cLine) (ha : SE X W T a fa) (hb : SE X W T b fb) : SE X W T (.Compare a [.NotEq] [b] pos) (x2 neD fa fb) := se_cmp (op_neD hu) opd_ne ha hb (nomark _)
theorem se_isN {a b : Expr} {pos : Pos} {fa fb : M D} (ha : SE X W T a fa) (hb : SE X W T b fb) : SE X W T (.Compare a [.Is] [b] pos) (x2 isNoneD fa fb) := se_cmp op_isN opd_isN ha hb (nomark _)
theorem se_notN {a b : Expr} {pos : Pos} {fa fb : M D} (ha : SE X W T a fa) (hb : SE X W T b fb) : SE X W T (.Compare a [.IsNot] [b] pos) (x2 notNoneD fa fb) := se_cmp op_notN opd_notN ha hb (nomark _)
theorem st_lt {a b : Expr} {pos : Pos} {fa fb : M D} (ha : SE X W T a fa) (hb : SE X W T b fb) : ST X W T (.Compare a [.Lt] [b] pos) (mT (x2 ltD fa fb)) := st_cmp op_lt opd_lt ha hb (nomark _)
theorem st_le {a b : Expr} {pos : Pos} {fa fb : M D} (ha : SE X W T a fa) (hb : SE X W T b fb) : ST X W T (.Compare a [.LtE] [b] pos) (mT (x2 leD fa fb)) := st_cmp op_le opd_le ha hb (nomark _)
theorem st_gt {a b : Expr} {pos : Pos} {fa fb : M D} (ha : SE X W T a fa) (hb : SE X W T b fb) : ST X W T (.Compare a [.Gt] [b] pos) (mT (x2 gtD fa fb)) := st_cmp op_gt opd_gt ha hb (nomark _)
theorem st_ge {a b : Expr} {pos : Pos} {fa fb : M D} (ha : SE X W T a fa) (hb : SE X W T b fb) : ST X W T (.Compare a [.GtE] [b] pos) (mT (x2 geD fa fb)) := st_cmp op_ge opd_ge ha hb (nomark _)
theorem st_eq {a b : Expr} {pos : Pos} {fa fb : M D} (hu : X.A.units + 64 < cLine) (ha : SE X W T a fa) (hb : SE X W T b fb) : ST X W T (.Compare a [.Eq] [b] pos) (mT (x2 eqD fa fb)) := st_cmp (op_eqD hu) opd_eq ha hb (nomark _)
theorem st_ne {a b : Expr} {pos : Pos} {fa fb : M D} (hu : X.A.units + 64 < cLine) (ha : SE X W T a fa) (hb : SE X W T b fb) : ST X W T (.Compare a [.NotEq] [b] pos) (mT (x2 neD fa fb)) := st_cmp (op_neD hu) opd_ne ha hb (nomark _)
theorem st_isN {a b : Expr} {pos : Pos} {fa fb : M D} (ha : SE X W T a fa) (hb : SE X W T b fb) : ST X W T (.Compare a [.Is] [b] pos) (mT (x2 isNoneD fa fb)) := st_cmp op_isN opd_isN ha hb (nomark _)
theorem st_notN {a b : Expr} {pos : Pos} {fa fb : M D} (ha : SE X W T a fa) (hb : SE X W T b fb) : ST X W T (.Compare a [.IsNot] [b] pos) (mT (x2 notNoneD fa fb)) := st_cmp op_notN opd_notN ha hb (nomark _)
end
end FL
namespace FL
open PySem PySem.Spec L2
section
variable {X : Cx} {W : WX} {T : List Nat} {K : PySem.W.Frag}
/-! ### truth -/
def truB : D → Option Bool
  | .non => some false
  | .bl b => some b
  | .int i => some (i != 0)
  | .str x => if decide (x.length ≤ most) then some ((x.length : Int) != 0) else none
  | .tup ds => some (!ds.isEmpty)
  | .lst ds => some (!ds.isEmpty)
  | .scr ds => some (!ds.isEmpty)
  | .dct kvs => some (!kvs.isEmpty)
  | .opq _ => none
  | .dfn _ => none
theorem RepL.empty {F : Hp} {vs : List V} {ds : List D} (r : RepL K F vs ds) : vs.isEmpty = ds.isEmpty := by cases r <;> rfl
theorem tru_of {F H : Hp} {v : V} {d : D} {k : Bool} (e : Same F H) (h : Rep K F v d) (q : truB d = some k) : TruV K v H k := by
  cases h with
  | non => exact (Option.some.inj q).symm
  | bl b => exact (Option.some.inj q).symm
  | int i => exact (Option.some.inj q).symm
  | str x =>
    simp only [truB] at q
    split at q
    · rename_i c
      exact ⟨of_most c, (Option.some.inj q).symm⟩
    · cases q
  | tup h r => exact .inr (.inl ⟨_, sameT e h, by rw [r.empty]; exact (Option.some.inj q).symm⟩)
  | lst h r => exact .inl ⟨_, SqL.of (e _ _ h), by rw [r.empty]; exact (Option.some.inj q).symm⟩
  | scr h r => exact .inl ⟨_, e.seq h, by rw [r.empty]; exact (Option.some.inj q).symm⟩
  | dct h r => exact .inr (.inr ⟨_, e _ _ h, by
      have : ∀ {a : List (Key × V)} {b : List (Key × D)}, RepK K F a b → a.isEmpty = b.isEmpty := fun r => by cases r <;> rfl
      rw [this r]; exact (Option.some.inj q).symm⟩)
  | opq v => cases q
  | dfn h => cases q
def mTru (m : M D) : M Bool := mB m fun d => mO (truB d)
theorem mTru_run {te : TE} {f : M D} (h : EvE X W T te f) {x : Cf} {Q : VK} {α : Type} {k : Bool → D → M α} {Qf : α → Cf → Prop} (s : RSt X.K x) (p : Post X.K X.mg T W x (mB f (fun d => mB (mO (truB d)) fun b => k b d) x.r) Qf)
    (n : ∀ b d y, Fr T x y → RSt X.K y → y.s = x.s → (∀ v, Rep X.K y.F v d → TruV X.K v y.H b → Post X.K X.mg T W y (k b d y.r) Qf → Q v y.H)) : te x.s x.H Q := by
  refine h.bind s p fun d y f1 s1 e1 v hv p1 => ?_
  cases q : truB d with
  | none => rw [q] at p1; exact p1.elim
  | some b =>
    rw [q] at p1
    exact n b d y f1 s1 e1 v hv (tru_of s1.sub hv q) p1
theorem ev_truth {te : TE} {f : M D} (h : EvE X W T te f) : EvT X W T (fun σ H Q => te σ H fun x H' => ∃ k, TruV X.K x H' k ∧ Q k H') (mTru f) := by
  intro x Q s p
  refine h.bind s p fun d y f1 s1 e1 v hv p1 => ?_
  cases q : truB d with
  | none => rw [q] at p1; exact p1.elim
  | some b =>
    rw [q] at p1
    exact ⟨b, tru_of s1.sub hv q, p1 y rfl (Fr.refl T y) s1 e1⟩
theorem st_of {e : Expr} {f : M D} (h : SE X W T e f) (he : ∀ whole, isTrue e X.env whole = (do let v ← whole; standAt e.pos; holding [v] (truthy v)) := by intro _; rfl) : ST X W T e (mTru f) := by
  obtain ⟨te, pe, ev⟩ := h.ex
  exact ⟨_, pt_truth pe he, ev_truth ev⟩
/-! ### and, or, not -/
def xAnd (a b : M D) : M D := mB a fun d => mB (mO (truB d)) fun k => if k then b else mP d
def xOr (a b : M D) : M D := mB a fun d => mB (mO (truB d)) fun k => if k then mP d else b
def xNot (a : M D) : M D := mB a fun d => mB (mO (truB d)) fun k => mP (.bl (!k))
theorem se_one {op} {a : Expr} {pos : Pos} {f : M D} (h : SE X W T a f) : SE X W T (.BoolOp op [a] pos) f := by
  obtain ⟨te, pe, ev⟩ := h.ex
  exact ⟨_, pe_one pe, ev⟩
theorem se_and {a b : Expr} {rest : List Expr} {pos : Pos} {fa fb : M D} (ha : SE X W T a fa) (hb : SE X W T (.BoolOp .And (b :: rest) pos) fb) : SE X W T (.BoolOp .And (a :: b :: rest) pos) (xAnd fa fb) := by
  obtain ⟨ta, pa, ea⟩ := ha.ex
  obtain ⟨tb, pb, eb⟩ := hb.ex
  refine ⟨_, pe_andT pa pb, fun x Q s p => ?_⟩
  refine mTru_run ea s p fun k d y f1 s1 e1 v hv tv p1 => ⟨k, tv, ?_⟩
  cases k with
  | true =>
    show tb x.s y.H Q
    rw [← e1]
    exact eb y Q s1 (p1.mono fun a z _ _ q e => q (e.trans e1))
  | false => exact p1 y rfl (Fr.refl T y) s1 e1 v hv
theorem se_or {a b : Expr} {rest : List Expr} {pos : Pos} {fa fb : M D} (ha : SE X W T a fa) (hb : SE X W T (.BoolOp .Or (b :: rest) pos) fb) : SE X W T (.BoolOp .Or (a :: b :: rest) pos) (xOr fa fb) := by
  obtain ⟨ta, pa, ea⟩ := ha.ex
  obtain ⟨tb, pb, eb⟩ := hb.ex
  refine ⟨_, pe_orT pa pb, fun x Q s p => ?_⟩
  refine mTru_run ea s p fun k d y f1 s1 e1 v hv tv p1 => ⟨k, tv, ?_⟩
  cases k with
  | true => exact p1 y rfl (Fr.refl T y) s1 e1 v hv
  | false =>
    show tb x.s y.H Q
    rw [← e1]
    exact eb y Q s1 (p1.mono fun a z _ _ q e => q (e.trans e1))
theorem se_not {a : Expr} {pos : Pos} {fa : M D} (ha : SE X W T a fa) : SE X W T (.UnaryOp .Not a pos) (xNot fa) := by
  obtain ⟨ta, pa, ea⟩ := ha.ex
  refine ⟨_, pe_notT pa, fun x Q s p => ?_⟩
  exact mTru_run ea s p fun k d y f1 s1 e1 v hv tv p1 => ⟨k, tv, p1 y rfl (Fr.refl T y) s1 e1 _ (.bl _)⟩
structure SW (X : Cx) (W : WX) (T : List Nat) (e : Expr) (f : M Bool) : Prop where
  ex : ∃ te, PW X e te ∧ EvT X W T te f
def tAndM (a b : M Bool) : M Bool := mB a fun k => if k then b else mP false
def tOrM (a b : M Bool) : M Bool := mB a fun k => if k then mP true else b
def tNotM (a : M Bool) : M Bool := mB a fun k => mP (!k)
theorem sw_and1 {a : Expr} {pos : Pos} {f : M Bool} (h : ST X W T a f) : SW X W T (.BoolOp .And [a] pos) f := by
  obtain ⟨te, pe, ev⟩ := h.ex
  exact ⟨_, pw_and1 pe, ev⟩
theorem sw_or1 {a : Expr} {pos : Pos} {f : M Bool} (h : ST X W T a f) : SW X W T (.BoolOp .Or [a] pos) f := by
  obtain ⟨te, pe, ev⟩ := h.ex
  exact ⟨_, pw_or1 pe, ev⟩
theorem sw_and {a b : Expr} {rest : List Expr} {pos : Pos} {fa fb : M Bool} (ha : ST X W T a fa) (hb : SW X W T (.BoolOp .And (b :: rest) pos) fb) : SW X W T (.BoolOp .And (a :: b :: rest) pos) (tAndM fa fb) := by
  obtain ⟨ta, pa, ea⟩ := ha.ex
  obtain ⟨tb, pb, eb⟩ := hb.ex
  refine ⟨_, pw_and pa pb, fun x Q s p => ?_⟩
  refine ea.bind s p fun k y f1 s1 e1 p1 => ?_
  cases k with
  | true =>
    show tb x.s y.H Q
    rw [← e1]
    exact eb y Q s1 (p1.mono fun a z _ _ q e => q (e.trans e1))
  | false => exact p1 y rfl (Fr.refl T y) s1 e1
theorem sw_or {a b : Expr} {rest : List Expr} {pos : Pos} {fa fb : M Bool} (ha : ST X W T a fa) (hb : SW X W T (.BoolOp .Or (b :: rest) pos) fb) : SW X W T (.BoolOp .Or (a :: b :: rest) pos) (tOrM fa fb) := by
  obtain ⟨ta, pa, ea⟩ := ha.ex
  obtain ⟨tb, pb, eb⟩ := hb.ex
  refine ⟨_, pw_or pa pb, fun x Q s p => ?_⟩
  refine ea.bind s p fun k y f1 s1 e1 p1 => ?_
  cases k with
  | true => exact p1 y rfl (Fr.refl T y) s1 e1
  | false =>
    show tb x.s y.H Q
    rw [← e1]
    exact eb y Q s1 (p1.mono fun a z _ _ q e => q (e.trans e1))
theorem SW.pt {e : Expr} {f : M Bool} (h : SW X W T e f) : ST X W T e f := by
  obtain ⟨te, pe, ev⟩ := h.ex
  exact ⟨_, pe.pt, ev⟩
theorem st_not {a : Expr} {pos : Pos} {f : M Bool} (h : ST X W T a f) : ST X W T (.UnaryOp .Not a pos) (tNotM f) := by
  obtain ⟨te, pe, ev⟩ := h.ex
  refine ⟨_, pt_not pe, fun x Q s p => ?_⟩
  exact ev.bind s p fun k y f1 s1 e1 p1 => p1 y rfl (Fr.refl T y) s1 e1
def xIf (c : M Bool) (a b : M D) : M D := mB c fun k => if k then a else b
theorem se_if {c a b : Expr} {pos : Pos} {fc : M Bool} {fa fb : M D} (hc : ST X W T c fc) (ha : SE X W T a fa) (hb : SE X W T b fb) : SE X W T (.IfExp c a b pos) (xIf fc fa fb) := by
  obtain ⟨tc, pc, ec⟩ := hc.ex
  obtain ⟨ta, pa, ea⟩ := ha.ex
  obtain ⟨tb, pb, eb⟩ := hb.ex
  refine ⟨_, pe_ifExp pc pa pb, fun x Q s p => ?_⟩
  refine ec.bind s p fun k y f1 s1 e1 p1 => ?_
  cases k with
  | true =>
    show ta x.s y.H Q
    rw [← e1]
    exact ea y Q s1 (p1.mono fun a z _ _ q e => q (e.trans e1))
  | false =>
    show tb x.s y.H Q
    rw [← e1]
    exact eb y Q s1 (p1.mono fun a z _ _ q e => q (e.trans e1))
def negD : D → Option D
  | .int i => some (.int (-i))
  | _ => none
def x1 (o : D → Option D) (a : M D) : M D := mB a fun d => mO (o d)
theorem se_neg {a : Expr} {pos : Pos} {fa : M D} (ha : SE X W T a fa) : SE X W T (.UnaryOp .USub a pos) (x1 negD fa) := by
  obtain ⟨ta, pa, ea⟩ := ha.ex
  refine ⟨_, pe_un un_neg pa, fun x Q s p => ?_⟩
  refine ea.bind s p fun d y f1 s1 e1 v hv p1 => ?_
  cases d <;> try exact p1.elim
  cases hv
  exact ⟨_, rfl, p1 y rfl (Fr.refl T y) s1 e1 _ (.int _)⟩
/-! ### a chain of two comparisons -/
def xChain (o o' : D → D → Option D) (a b c : M D) : M D := mB a fun d => mB b fun e => mB (mO (o d e)) fun z => match z with
  | .bl k => if k then mB c fun g => mO (o' e g) else mP (.bl false)
  | _ => fun _ => .bad
theorem ev_chain {r r' : R2} {o o' : D → D → Option D} {ta tb tc : TE} {fa fb fc : M D} (ho : OpD X.K r o) (ho' : OpD X.K r' o')
    (ea : EvE X W T ta fa) (eb : EvE X W T tb fb) (ec : EvE X W T tc fc) : EvE X W T (tChain r r' ta tb tc) (xChain o o' fa fb fc) := by
  intro x Q s p
  refine ea.bind s p fun d y f1 s1 e1 v hv p1 => ?_
  show tb x.s y.H _
  rw [← e1]
  refine eb.bind s1 p1 fun e z f2 s2 e2 u hu p2 => ?_
  cases q : o d e with
  | none => rw [q] at p2; exact p2.elim
  | some w =>
    rw [q] at p2
    refine ho z v u d e w _ s2 (hv.mono f2.ff) hu q fun y2 w2 ex hw => ?_
    have p3 := p2.shift (ex.fr T)
    have s3 := ex.rst s2
    have e3 : y2.s = x.s := ex.s.trans (e2.trans e1)
    cases w <;> try exact p3.elim
    rename_i k
    cases hw
    refine ⟨k, rfl, ?_⟩
    cases k with
    | false =>
      show Q (.bl false) y2.H
      exact p3 y2 ex.r (Fr.refl T y2) s3 e3 _ (.bl _)
    | true =>
      show tc y.s y2.H _
      have e4 : y.s = y2.s := e1.trans e3.symm
      rw [e4]
      have p4 : Post X.K X.mg T W y2 (mB fc (fun g => mO (o' e g)) y2.r) (fun d y => y.s = x.s → ∀ v, Rep X.K y.F v d → Q v y.H) := by
        have : y2.r = z.r := ex.r
        rw [this]; exact p3
      refine ec.bind s3 p4 fun g y5 f5 s5 e5 w5 hw5 p5 => ?_
      cases q5 : o' e g with
      | none => rw [q5] at p5; exact p5.elim
      | some w6 =>
        rw [q5] at p5
        exact ho' y5 u w5 e g w6 Q s5 (hu.mono (ex.ff.trans f5.ff)) hw5 q5 fun y6 w7 ex6 hw7 => Post.here p5 ex6 s5 (ex6.s.trans (e5.trans e3)) w7 hw7
theorem se_chain {op op' : CmpOp} {r r' : R2} {o o' : D → D → Option D} {a b c : Expr} {pos : Pos} {fa fb fc : M D} (hr : OpR X (compareOp op) r) (hr' : OpR X (compareOp op') r') (ho : OpD X.K r o) (ho' : OpD X.K r' o')
    (ha : SE X W T a fa) (hb : SE X W T b fb) (hc : SE X W T c fc) (hm : lastMarks [op, op'] [b, c] = false := by with_unfolding_all rfl) : SE X W T (.Compare a [op, op'] [b, c] pos) (xChain o o' fa fb fc) := by
  obtain ⟨ta, pa, ea⟩ := ha.ex
  obtain ⟨tb, pb, eb⟩ := hb.ex
  obtain ⟨tc, pc, ec⟩ := hc.ex
  exact ⟨_, pe_chain hr hr' pa pb pc hm, ev_chain ho ho' ea eb ec⟩
theorem st_chain {op op' : CmpOp} {r r' : R2} {o o' : D → D → Option D} {a b c : Expr} {pos : Pos} {fa fb fc : M D} (hr : OpR X (compareOp op) r) (hr' : OpR X (compareOp op') r') (ho : OpD X.K r o) (ho' : OpD X.K r' o')
    (ha : SE X W T a fa) (hb : SE X W T b fb) (hc : SE X W T c fc) (hm : lastMarks [op, op'] [b, c] = false := by with_unfolding_all rfl) : ST X W T (.Compare a [op, op'] [b, c] pos) (mT (xChain o o' fa fb fc)) := by
  obtain ⟨ta, pa, ea⟩ := ha.ex
  obtain ⟨tb, pb, eb⟩ := hb.ex
  obtain ⟨tc, pc, ec⟩ := hc.ex
  exact ⟨_, pt_chain hr hr' pa pb pc hm, ev_test (ev_chain ho ho' ea eb ec)⟩
/-! ### rows of values -/
def EvD (X : Cx) (W : WX) (T : List Nat) (ta : TA) (f : M (List D)) : Prop := ∀ (x : Cf) (Q : List V → Hp → Prop), RSt X.K x → Post X.K X.mg T W x (f x.r) (fun ds y => y.s = x.s → ∀ vs, RepL X.K y.F vs ds → Q vs y.H) → ta x.s x.H Q
structure SD (X : Cx) (W : WX) (T : List Nat) (es : List Expr) (f : M (List D)) : Prop where
  ex : ∃ ta, PA X es ta ∧ EvD X W T ta f
def dCons (a : M D) (r : M (List D)) : M (List D) := mB a fun d => mB r fun ds => mP (d :: ds)
theorem sd_nil : SD X W T [] (mP []) := ⟨_, pa_nil, fun x Q s p => p x rfl (Fr.refl T x) s rfl [] .nil⟩
theorem EvD.bind {α : Type} {te : TA} {f : M (List D)} {k : List D → M α} {x : Cf} {Q : List V → Hp → Prop} {Qf : α → Cf → Prop} (h : EvD X W T te f) (s : RSt X.K x) (p : Post X.K X.mg T W x (mB f k x.r) Qf)
    (n : ∀ d y, Fr T x y → RSt X.K y → y.s = x.s → (∀ vs, RepL X.K y.F vs d → Post X.K X.mg T W y (k d y.r) Qf → Q vs y.H)) : te x.s x.H Q := by
  refine h x Q s ?_
  cases e : f x.r with
  | ok d ρ =>
    intro y hy fr sy hs vs hv
    refine n d y fr sy hs vs hv (Post.shift fr ?_)
    have e2 : mB f k x.r = k d y.r := by unfold mB; rw [e, hy]
    rw [← e2]; exact p
  | exc c pl ρ =>
    have e2 : mB f k x.r = .exc c pl ρ := by unfold mB; rw [e]
    rw [e2] at p; exact p
  | bad =>
    have e2 : mB f k x.r = .bad := by unfold mB; rw [e]
    rw [e2] at p; exact p
theorem sd_cons {e : Expr} {es : List Expr} {fa : M D} {fr : M (List D)} (ha : SE X W T e fa) (hr : SD X W T es fr) (hs : starEach (e :: es) X.env = (false, eval e X.env) :: starEach es X.env := by rfl) : SD X W T (e :: es) (dCons fa fr) := by
  obtain ⟨ta, pa, ea⟩ := ha.ex
  obtain ⟨tr, pr, er⟩ := hr.ex
  refine ⟨_, pa_cons pa pr hs, fun x Q s p => ?_⟩
  refine ea.bind s p fun d y f1 s1 e1 v hv p1 => ?_
  show tr x.s y.H _
  rw [← e1]
  exact er.bind s1 p1 fun ds z f2 s2 e2 vs hvs p2 => p2 z rfl (Fr.refl T z) s2 (e2.trans e1) (v :: vs) (.cons (hv.mono f2.ff) hvs)
def xTup (m : M (List D)) : M D := mB m fun ds => if decide (ds.length ≤ most) then mP (.tup ds) else fun _ => .bad
theorem se_tup {es : List Expr} {x1 pos} {f : M (List D)} (h : SD X W T es f) : SE X W T (.Tuple es x1 pos) (xTup f) := by
  obtain ⟨ta, pa, ea⟩ := h.ex
  refine ⟨_, pe_tup pa, fun x Q s p => ?_⟩
  refine ea.bind s p fun ds y f1 s1 e1 vs hv p1 => ?_
  by_cases c : decide (ds.length ≤ most) = true
  · rw [if_pos c] at p1
    refine ⟨by rw [hv.length]; exact of_most c, fun q hq => ?_⟩
    obtain ⟨h1, h2⟩ := ext_tup s1 hq hv
    exact Post.here p1 h1 s1 (h1.s.trans e1) _ h2
  · rw [if_neg c] at p1
    exact p1.elim
/-- a list that is new -/
def lLst (m : M (List D)) : M (List D) := mB m fun ds => if decide (ds.length ≤ most) then mP ds else fun _ => .bad
theorem RSt.at {x : Cf} (s : RSt K x) {i : Nat} {k : CK} {p : Addr} (h : CelAt x i k p) : ∃ ds us, x.r[i]? = some (.cel k ds) ∧ RepL K x.F us ds ∧ x.H p = some (.lst us) ∧ x.F p = none := by
  obtain ⟨⟨ds, h1⟩, h2⟩ := h
  obtain ⟨q, h3, us, h4, h5, h6⟩ := s.cel i k ds h1
  rw [h2] at h3
  cases h3
  exact ⟨ds, us, h1, h4, h5, h6⟩
theorem not_cel {x : Cf} {p : Addr} (s : RSt K x) (hp : x.H p = none) : ∀ i k, ¬ CelAt x i k p := fun i k h => by
  obtain ⟨ds, us, _, _, h5, _⟩ := s.at h
  rw [hp] at h5; cases h5
theorem el_lst {es : List Expr} {pos : Pos} {f : M (List D)} (h : SD X W T es f) : SL X W T (.List es pos) (lLst f) := by
  obtain ⟨ta, pa, ea⟩ := h.ex
  refine ⟨_, pe_lst pa, fun x Q s p => ?_⟩
  refine ea.bind s p fun ds y f1 s1 e1 vs hv p1 => ?_
  by_cases c : decide (ds.length ≤ most) = true
  · rw [if_pos c] at p1
    refine ⟨by rw [hv.length]; exact of_most c, fun q hq => ?_⟩
    have ex := Ext.raw (o := .lst vs) s1 hq
    exact Post.here p1 ex s1 (ex.s.trans e1) q vs ⟨upd_same, s1.sub.free hq, hv⟩ (f1.dm q hq) (fun i k z => not_cel s1 hq i k z)
  · rw [if_neg c] at p1
    exact p1.elim
/-- a new list, frozen -/
def xFz (m : M (List D)) : M D := mB m fun ds => mP (.lst ds)
theorem EvL.fz {te : TE} {f : M (List D)} (ev : EvL X W T te f) : EvE X W T te (xFz f) := by
  refine fun x Q s p => ev x Q s ?_
  cases e : f x.r with
  | ok ds ρ =>
    have e2 : xFz f x.r = .ok (.lst ds) ρ := by unfold xFz mB mP; rw [e]
    rw [e2] at p
    intro y hy fr sy hs q us hq hn hc
    obtain ⟨h1, h2, h3⟩ := hq
    have hz : Fr T x ⟨upd y.F q (.lst us), y.H, y.s, y.r⟩ := ⟨fr.ln, fr.ff.trans (same_upd h2), fr.dm, fun a o h => by
        by_cases ha : a = q
        · subst ha; exact .inr (.inl hn)
        · exact fr.nw a o (by rw [← h]; exact (upd_ne ha).symm), fr.hp, fr.cc, fr.un⟩
    refine p ⟨upd y.F q (.lst us), y.H, y.s, y.r⟩ hy hz ⟨fun a o h => ?_, sy.len, fun i d h => ?_, fun i k es h => ?_, sy.dis⟩ hs (.ref q) (.lst upd_same (h3.mono (same_upd h2)))
    · by_cases ha : a = q
      · subst ha
        have h' : upd y.F a (HO.lst us) a = some o := h
        rw [upd_same] at h'
        cases h'
        exact h1
      · exact sy.sub a o (by rw [← h]; exact (upd_ne ha).symm)
    · obtain ⟨v, g1, g2⟩ := sy.val i d h
      exact ⟨v, g1, g2.mono (same_upd h2)⟩
    · obtain ⟨r, g1, ws, g2, g3, g4⟩ := sy.cel i k es h
      refine ⟨r, g1, ws, g2.mono (same_upd h2), g3, ?_⟩
      have : r ≠ q := fun z => hc i k ⟨⟨es, h⟩, by rw [← z]; exact g1⟩
      show upd y.F q _ r = none
      rw [upd_ne this]; exact g4
  | exc c pl ρ =>
    have e2 : xFz f x.r = .exc c pl ρ := by unfold xFz mB; rw [e]
    rw [e2] at p; exact p
  | bad =>
    have e2 : xFz f x.r = .bad := by unfold xFz mB; rw [e]
    rw [e2] at p; exact p
theorem SL.se {e : Expr} {f : M (List D)} (h : SL X W T e f) : SE X W T e (xFz f) := by
  obtain ⟨te, pe, ev⟩ := h.ex
  exact ⟨te, pe, ev.fz⟩
end
end FL
namespace FL
open PySem PySem.Spec L2
section
variable {X : Cx} {W : WX} {T : List Nat} {K : PySem.W.Frag}
/-! ### places -/
theorem RepL.atI {F : Hp} {vs : List V} {ds : List D} (r : RepL K F vs ds) {i : Int} {d : D} (h : L2.atI ds i = some d) : ∃ v, L2.atI vs i = some v ∧ Rep K F v d := by
  unfold L2.atI at h ⊢
  rw [r.length]
  cases q : ixN ds.length i with
  | none => rw [q] at h; cases h
  | some j => rw [q] at h; exact r.get h
def ixD : D → D → Option D
  | .tup ds, .int i => L2.atI ds i
  | .lst ds, .int i => L2.atI ds i
  | .scr ds, .int i => L2.atI ds i
  | .str z, .int i => if decide (z.length ≤ most) then (L2.atI z.cps.toList i).map fun c => .str ⟨#[c]⟩ else none
  | _, _ => none
theorem opd_ix : OpD K (rIx K) ixD := by
  intro x v u d e z Q s hv hu q k
  obtain ⟨i, rfl⟩ : ∃ i, e = .int i := by cases d <;> cases e <;> simp [ixD] at q <;> exact ⟨_, rfl⟩
  cases hu
  cases hv <;> try (simp [ixD] at q; done)
  · simp only [ixD] at q
    split at q
    · rename_i y c
      cases w : L2.atI y.cps.toList i with
      | none => rw [w] at q; cases q
      | some c' =>
        rw [w] at q
        cases q
        exact .inr (.inr ⟨_, _, _, rfl, rfl, of_most c, w, k x _ (Ext.refl s) (.str _)⟩)
    · cases q
  · rename_i ha r
    obtain ⟨w, h1, h2⟩ := r.atI q
    exact .inr (.inl ⟨_, _, _, _, rfl, rfl, sameT s.sub ha, h1, k x _ (Ext.refl s) h2⟩)
  · rename_i ha r
    obtain ⟨w, h1, h2⟩ := r.atI q
    exact .inl ⟨_, _, _, _, rfl, rfl, SqL.of (s.sub _ _ ha), h1, k x _ (Ext.refl s) h2⟩
  · rename_i ha r
    obtain ⟨w, h1, h2⟩ := r.atI q
    exact .inl ⟨_, _, _, _, rfl, rfl, s.sub.seq ha, h1, k x _ (Ext.refl s) h2⟩
theorem se_ix {a b : Expr} {pos : Pos} {fa fb : M D} (ha : SE X W T a fa) (hb : SE X W T b fb) (hs : PlainIx b := by intro _ _; rfl) : SE X W T (.Subscript a b pos) (x2 ixD fa fb) := by
  obtain ⟨ta, pa, ea⟩ := ha.ex
  obtain ⟨tb, pb, eb⟩ := hb.ex
  exact ⟨_, pe_ix ix_seq pa pb hs, ev_op opd_ix ea eb⟩
/-! ### cuts -/
structure SO (X : Cx) (W : WX) (T : List Nat) (e : Option Expr) (f : M (Option Int)) : Prop where
  ex : ∃ t, PO X e t ∧ ∀ (x : Cf) (Q : Option Int → Hp → Prop), RSt X.K x → Post X.K X.mg T W x (f x.r) (fun o y => y.s = x.s → Q o y.H) → t x.s x.H Q
theorem so_none : SO X W T none (mP none) := ⟨_, po_none, fun x Q s p => p x rfl (Fr.refl T x) s rfl⟩
def oInt (m : M D) : M (Option Int) := mB m fun d => match d with
  | .int i => mP (some i)
  | _ => fun _ => .bad
theorem so_some {e : Expr} {f : M D} (h : SE X W T e f) : SO X W T (some e) (oInt f) := by
  obtain ⟨te, pe, ev⟩ := h.ex
  refine ⟨_, po_some pe, fun x Q s p => ?_⟩
  refine ev.bind s p fun d y f1 s1 e1 v hv p1 => ?_
  cases d <;> try exact p1.elim
  cases hv
  exact ⟨_, rfl, p1 y rfl (Fr.refl T y) s1 e1⟩
def cutDs (ds : List D) (lo hi : Option Int) : List D := (ds.drop (HT.sIx ds.length 0 lo)).take (HT.sIx ds.length ds.length hi - HT.sIx ds.length 0 lo)
theorem RepL.cut {F : Hp} {vs : List V} {ds : List D} (r : RepL K F vs ds) (lo hi : Option Int) : RepL K F (cutV vs lo hi) (cutDs ds lo hi) := by
  unfold cutV cutDs
  rw [r.length]
  exact (r.drop _).take _
def cutD (d : D) (lo hi : Option Int) : Option D := match d with
  | .tup ds => some (.tup (cutDs ds lo hi))
  | .lst ds => some (.lst (cutDs ds lo hi))
  | .scr ds => some (.lst (cutDs ds lo hi))
  | _ => none
def xCut (a : M D) (lo hi : M (Option Int)) : M D := mB a fun d => mB lo fun l => mB hi fun h => mO (cutD d l h)
theorem whole_cut {ds : List D} {lo hi : Option Int} (h : HT.sIx ds.length 0 lo = 0 ∧ HT.sIx ds.length ds.length hi = ds.length) : cutDs ds lo hi = ds := by
  unfold cutDs
  rw [h.1, h.2, Nat.sub_zero, List.drop_zero, List.take_length]
theorem se_cut {a : Expr} {lo hi : Option Expr} {p2 pos : Pos} {fa : M D} {fl fh : M (Option Int)} (ha : SE X W T a fa) (hl : SO X W T lo fl) (hh : SO X W T hi fh) : SE X W T (.Subscript a (.Slice lo hi none p2) pos) (xCut fa fl fh) := by
  obtain ⟨ta, pa, ea⟩ := ha.ex
  obtain ⟨tl, pl, el⟩ := hl.ex
  obtain ⟨th, ph, eh⟩ := hh.ex
  refine ⟨_, pe_slice (SlR.or sl_tupA sl_list) pa pl ph, fun x Q s p => ?_⟩
  refine ea.bind s p fun d y f1 s1 e1 v hv p1 => ?_
  show tl x.s y.H _
  rw [← e1]
  refine el y _ s1 ?_
  cases q1 : fl y.r with
  | bad => have e2 : mB fl (fun l => mB fh fun h => mO (cutD d l h)) y.r = .bad := by { unfold mB; rw [q1] }; rw [e2] at p1; exact p1.elim
  | exc c pl ρ =>
    have e2 : mB fl (fun l => mB fh fun h => mO (cutD d l h)) y.r = .exc c pl ρ := by unfold mB; rw [q1]
    rw [e2] at p1; exact p1
  | ok l ρ =>
    have e2 : mB fl (fun l => mB fh fun h => mO (cutD d l h)) y.r = mB fh (fun h => mO (cutD d l h)) ρ := by rw [mB]; simp only [q1]
    rw [e2] at p1
    intro z hz fz sz ez
    rw [← hz] at p1
    have p2 := p1.shift fz
    show th y.s z.H _
    rw [← ez]
    refine eh z _ sz ?_
    cases q2 : fh z.r with
    | bad => have e3 : mB fh (fun h => mO (cutD d l h)) z.r = .bad := by { unfold mB; rw [q2] }; rw [e3] at p2; exact p2.elim
    | exc c pl ρ =>
      have e3 : mB fh (fun h => mO (cutD d l h)) z.r = .exc c pl ρ := by unfold mB; rw [q2]
      rw [e3] at p2; exact p2
    | ok h ρ' =>
      have e3 : mB fh (fun h => mO (cutD d l h)) z.r = mO (cutD d l h) ρ' := by rw [mB]; simp only [q2]
      rw [e3] at p2
      intro w hw fw sw ew
      have hs : w.s = x.s := ew.trans (ez.trans e1)
      cases q3 : cutD d l h with
      | none => rw [q3] at p2; exact p2.elim
      | some g =>
        rw [q3, ← hw] at p2
        have p3 := p2.shift fw
        have hv' := hv.mono (fz.ff.trans fw.ff)
        cases hv' <;> try (simp [cutD] at q3; done)
        · rename_i vs ds ha r
          cases q3
          refine .inl ⟨_, _, rfl, sameT sw.sub ha, fun c => ?_, fun _ q hq => ?_⟩
          · rw [r.length] at c
            refine p3 w rfl (Fr.refl T w) sw hs _ ?_
            rw [whole_cut c]
            exact .tup ha r
          · obtain ⟨h1, h2⟩ := ext_tup sw hq (r.cut l h)
            exact Post.here p3 h1 sw (h1.s.trans hs) _ h2
        · rename_i vs ds ha r
          cases q3
          refine .inr ⟨_, _, rfl, SqL.of (sw.sub _ _ ha), fun q hq => ?_⟩
          obtain ⟨h1, h2⟩ := ext_lst sw hq (r.cut l h)
          exact Post.here p3 h1 sw (h1.s.trans hs) _ h2
        · rename_i vs ds ha r
          cases q3
          refine .inr ⟨_, _, rfl, sw.sub.seq ha, fun q hq => ?_⟩
          obtain ⟨h1, h2⟩ := ext_lst sw hq (r.cut l h)
          exact Post.here p3 h1 sw (h1.s.trans hs) _ h2
/-! ### a list of one's own, read as a value -/
mutual
/-- no list within -/
def noLst : D → Bool
  | .non => true
  | .bl _ => true
  | .int _ => true
  | .str _ => true
  | .tup ds => noLsts ds
  | .lst _ => false
  | .scr _ => false
  | .dct _ => false
  | .opq _ => true
  | .dfn _ => true
def noLsts : List D → Bool
  | [] => true
  | d :: ds => noLst d && noLsts ds
end
/-- without the address p -/
def cutH (F : Hp) (p : Addr) : Hp := fun a => if a = p then none else F a
theorem cutH_ne {F : Hp} {p a : Addr} (h : a ≠ p) : cutH F p a = F a := if_neg h
theorem cutH_same {F : Hp} {p : Addr} : cutH F p p = none := if_pos rfl
theorem sqT_cut {F : Hp} {p a : Addr} {vs us : List V} (hp : F p = some (.lst us)) (h : SqT K F a vs) : SqT K (cutH F p) a vs := by
  rcases h with (h | ⟨o, h⟩) | h
  · refine .inl (.inl ?_)
    rw [cutH_ne (by rintro rfl; rw [hp] at h; cases h)]
    exact h
  · refine .inl (.inr ⟨o, ?_⟩)
    rw [cutH_ne (by rintro rfl; rw [hp] at h; cases h)]
    exact h
  · exact .inr h
mutual
theorem rep_cut {F : Hp} {p : Addr} {us : List V} (hp : F p = some (.lst us)) : ∀ {v : V} {d : D}, Rep K F v d → noLst d = true → Rep K (cutH F p) v d
  | _, _, .non, _ => .non
  | _, _, .bl b, _ => .bl b
  | _, _, .int i, _ => .int i
  | _, _, .str x, _ => .str x
  | _, _, .tup h r, e => .tup (sqT_cut hp h) (repL_cut hp r e)
  | _, _, .lst _ _, e => nomatch e
  | _, _, .scr _ _, e => nomatch e
  | _, _, .dct _ _, e => nomatch e
  | _, _, .opq v, _ => .opq v
  | _, _, .dfn h, _ => .dfn h
theorem repL_cut {F : Hp} {p : Addr} {us : List V} (hp : F p = some (.lst us)) : ∀ {vs : List V} {ds : List D}, RepL K F vs ds → noLsts ds = true → RepL K (cutH F p) vs ds
  | _, _, .nil, _ => .nil
  | _, _, .cons h r, e => by
    unfold noLsts at e
    obtain ⟨e1, e2⟩ := Bool.and_eq_true_iff.mp e
    exact .cons (rep_cut hp h e1) (repL_cut hp r e2)
end
/-- slot j's list at p lent -/
def lent (x : Cf) (j : Nat) (p : Addr) (us : List V) (ds : List D) : Cf := ⟨upd x.F p (.lst us), x.H, x.s, x.r.set j (.val (.lst ds))⟩
theorem set_get {α : Type} {l : List α} {i j : Nat} {a b : α} (h : (l.set i a)[j]? = some b) : (i = j ∧ a = b) ∨ (i ≠ j ∧ l[j]? = some b) := by
  by_cases e : i = j
  · subst e
    by_cases hl : i < l.length
    · rw [List.getElem?_set_self hl] at h
      exact .inl ⟨rfl, Option.some.inj h⟩
    · rw [List.getElem?_eq_none (by simpa using hl)] at h; cases h
  · rw [List.getElem?_set_ne e] at h
    exact .inr ⟨e, h⟩
theorem lent_cel {x : Cf} {j : Nat} {p : Addr} {us : List V} {ds : List D} {i : Nat} {k : CK} {q : Addr} (h : CelAt (lent x j p us ds) i k q) : i ≠ j ∧ CelAt x i k q := by
  obtain ⟨⟨es, h1⟩, h2⟩ := h
  rcases set_get (show (x.r.set j (.val (.lst ds)))[i]? = some (.cel k es) from h1) with ⟨_, e⟩ | ⟨e, g⟩
  · cases e
  · exact ⟨Ne.symm e, ⟨es, g⟩, h2⟩
theorem lent_ok {x : Cf} {j : Nat} {p : Addr} {us : List V} {ds : List D} {k : CK} (s : RSt K x) (h : x.r[j]? = some (.cel k ds)) (hs : x.s[j]? = some (some (.ref p))) (r : RepL K x.F us ds) (hp : x.H p = some (.lst us)) (fp : x.F p = none) : RSt K (lent x j p us ds) where
  sub := fun a o e => by
    by_cases ha : a = p
    · subst ha
      have e' : upd x.F a (HO.lst us) a = some o := e
      rw [upd_same] at e'; cases e'
      exact hp
    · exact s.sub a o (by rw [← e]; exact (upd_ne ha).symm)
  len := by show x.s.length = (x.r.set j _).length; rw [List.length_set]; exact s.len
  val := fun i d e => by
    rcases set_get (show (x.r.set j (.val (.lst ds)))[i]? = some (.val d) from e) with ⟨e1, e2⟩ | ⟨e1, e2⟩
    · subst e1
      cases e2
      exact ⟨.ref p, hs, .lst upd_same (r.mono (same_upd fp))⟩
    · obtain ⟨v, h1, h2⟩ := s.val i d e2
      exact ⟨v, h1, h2.mono (same_upd fp)⟩
  cel := fun i k' es e => by
    rcases set_get (show (x.r.set j (.val (.lst ds)))[i]? = some (.cel k' es) from e) with ⟨e1, e2⟩ | ⟨e1, e2⟩
    · cases e2
    · obtain ⟨q, h1, ws, h2, h3, h4⟩ := s.cel i k' es e2
      refine ⟨q, h1, ws, h2.mono (same_upd fp), h3, ?_⟩
      have ne : q ≠ p := fun z => e1 (s.dis j i k k' p ⟨⟨ds, h⟩, hs⟩ ⟨⟨es, e2⟩, by rw [← z]; exact h1⟩)
      show upd x.F p _ q = none
      rw [upd_ne ne]; exact h4
  dis := fun i j' k' l q h1 h2 => s.dis i j' k' l q (lent_cel h1).2 (lent_cel h2).2
/-- what the touched slots may hold when the list comes back -/
def okT (T : List Nat) (r : List Ent) : Bool := T.all fun i => match r[i]? with
  | some (.val d) => noLst d
  | some (.cel _ ds) => noLsts ds
  | _ => true
/-- .. and taken back -/
def back (y : Cf) (j : Nat) (p : Addr) (k : CK) (ds : List D) : Cf := ⟨cutH y.F p, y.H, y.s, y.r.set j (.cel k ds)⟩
theorem back_ok {T : List Nat} {x y : Cf} {j : Nat} {p : Addr} {us : List V} {ds : List D} {k : CK} (s : RSt K x) (h : x.r[j]? = some (.cel k ds)) (hs : x.s[j]? = some (some (.ref p))) (r : RepL K x.F us ds) (hp : x.H p = some (.lst us)) (fp : x.F p = none)
    (f : Fr T (lent x j p us ds) y) (sy : RSt K y) (hj : j ∉ T) (ht : okT T y.r = true) : Fr T x (back y j p k ds) ∧ RSt K (back y j p k ds) := by
  have yp : y.F p = some (.lst us) := f.ff p _ upd_same
  have lj : j < x.r.length := (List.getElem?_eq_some_iff.mp h).1
  have lenr : y.r.length = x.r.length := f.ln.trans (by show (x.r.set j _).length = _; rw [List.length_set])
  have lty : j < y.r.length := by rw [lenr]; exact lj
  have ysj : y.s[j]? = some (some (.ref p)) := (f.un j hj).2.trans hs
  have yH : y.H p = some (.lst us) := sy.sub p _ yp
  have celb : ∀ i l q, CelAt (back y j p k ds) i l q → (i = j ∧ l = k ∧ q = p) ∨ (i ≠ j ∧ CelAt y i l q) := fun i l q ⟨⟨es, h1⟩, h2⟩ => by
    rcases set_get (show (y.r.set j (.cel k ds))[i]? = some (.cel l es) from h1) with ⟨e1, e2⟩ | ⟨e1, e2⟩
    · subst e1
      cases e2
      have h2' : y.s[j]? = some (some (.ref q)) := h2
      rw [ysj] at h2'
      cases h2'
      exact .inl ⟨rfl, rfl, rfl⟩
    · exact .inr ⟨Ne.symm e1, ⟨es, e2⟩, h2⟩
  have celx : CelAt x j k p := ⟨⟨ds, h⟩, hs⟩
  have yne : ∀ i l q, CelAt y i l q → q ≠ p := fun i l q c z => by
    obtain ⟨_, _, _, _, _, g⟩ := sy.at c
    rw [z, yp] at g; cases g
  constructor
  · refine ⟨by show (y.r.set j _).length = _; rw [List.length_set]; exact lenr, fun a o e => ?_, f.dm, fun a o e => ?_, fun a o e n => ?_, fun i l q c => ?_, fun i hi => ?_⟩
    · have ne : a ≠ p := by rintro rfl; rw [fp] at e; cases e
      show cutH y.F p a = some o
      rw [cutH_ne ne]
      exact f.ff a o (by show upd x.F p _ a = some o; rw [upd_ne ne]; exact e)
    · have e' : cutH y.F p a = some o := e
      have ne : a ≠ p := by rintro rfl; rw [cutH_same] at e'; cases e'
      rw [cutH_ne ne] at e'
      rcases f.nw a o e' with ⟨u, g⟩ | g | ⟨i, g⟩
      · exact .inl ⟨u, by rw [← g]; exact (upd_ne ne).symm⟩
      · exact .inr (.inl g)
      · exact .inr (.inr ⟨i, (lent_cel g).2⟩)
    · exact f.hp a o e fun i hi l c => n i hi l (lent_cel c).2
    · rcases celb i l q c with ⟨rfl, rfl, rfl⟩ | ⟨ne, c'⟩
      · exact .inr celx
      · rcases f.cc i l q c' with g | g
        · exact .inl g
        · exact .inr (lent_cel g).2
    · show (y.r.set j _)[i]? = _ ∧ _
      by_cases e : i = j
      · subst e
        rw [List.getElem?_set_self lty]
        exact ⟨h.symm, (f.un i hi).2⟩
      · rw [List.getElem?_set_ne (Ne.symm e)]
        refine ⟨(f.un i hi).1.trans ?_, (f.un i hi).2⟩
        show (x.r.set j _)[i]? = _
        rw [List.getElem?_set_ne (Ne.symm e)]
  · refine ⟨fun a o e => ?_, by show y.s.length = (y.r.set j _).length; rw [List.length_set]; exact sy.len, fun i d e => ?_, fun i l es e => ?_, fun i m l l' q c c' => ?_⟩
    · have e' : cutH y.F p a = some o := e
      have ne : a ≠ p := by rintro rfl; rw [cutH_same] at e'; cases e'
      rw [cutH_ne ne] at e'
      exact sy.sub a o e'
    · rcases set_get (show (y.r.set j (.cel k ds))[i]? = some (.val d) from e) with ⟨_, e2⟩ | ⟨e1, e2⟩
      · cases e2
      · by_cases hi : i ∈ T
        · obtain ⟨v, h1, h2⟩ := sy.val i d e2
          have := List.all_eq_true.mp ht i hi
          rw [e2] at this
          exact ⟨v, h1, rep_cut yp h2 this⟩
        · obtain ⟨g1, g2⟩ := f.un i hi
          rw [e2] at g1
          have g3 : x.r[i]? = some (.val d) := by
            rw [g1]
            show x.r[i]? = (x.r.set j _)[i]?
            rw [List.getElem?_set_ne e1]
          obtain ⟨v, h1, h2⟩ := s.val i d g3
          refine ⟨v, g2.trans h1, h2.mono fun a o ea => ?_⟩
          have ne : a ≠ p := by rintro rfl; rw [fp] at ea; cases ea
          show cutH y.F p a = some o
          rw [cutH_ne ne]
          exact f.ff a o (by show upd x.F p _ a = some o; rw [upd_ne ne]; exact ea)
    · rcases set_get (show (y.r.set j (.cel k ds))[i]? = some (.cel l es) from e) with ⟨e1, e2⟩ | ⟨e1, e2⟩
      · subst e1
        cases e2
        exact ⟨p, ysj, us, r.mono fun a o ea => by
          have ne : a ≠ p := by rintro rfl; rw [fp] at ea; cases ea
          show cutH y.F p a = some o
          rw [cutH_ne ne]
          exact f.ff a o (by show upd x.F p _ a = some o; rw [upd_ne ne]; exact ea), yH, cutH_same⟩
      · obtain ⟨q, h1, ws, h2, h3, h4⟩ := sy.cel i l es e2
        have qp : q ≠ p := yne i l q ⟨⟨es, e2⟩, h1⟩
        refine ⟨q, h1, ws, ?_, h3, by show cutH y.F p q = none; rw [cutH_ne qp]; exact h4⟩
        by_cases hi : i ∈ T
        · have := List.all_eq_true.mp ht i hi
          rw [e2] at this
          exact repL_cut yp h2 this
        · obtain ⟨g1, g2⟩ := f.un i hi
          rw [e2] at g1
          have g3 : x.r[i]? = some (.cel l es) := by
            rw [g1]
            show x.r[i]? = (x.r.set j _)[i]?
            rw [List.getElem?_set_ne e1]
          obtain ⟨q', k1, ws', k2, k3, k4⟩ := s.cel i l es g3
          rw [g2, show (lent x j p us ds).s[i]? = x.s[i]? from rfl, k1] at h1
          cases h1
          -- the same list stands there
          have hk : y.H q = some (.lst ws') := by
            refine f.hp q _ k3 fun i' hi' l' c => ?_
            have := s.dis i' i l' l q (lent_cel c).2 ⟨⟨es, g3⟩, k1⟩
            exact hi (this ▸ hi')
          rw [h3] at hk
          cases hk
          exact k2.mono fun a o ea => by
            have ne : a ≠ p := by rintro rfl; rw [fp] at ea; cases ea
            show cutH y.F p a = some o
            rw [cutH_ne ne]
            exact f.ff a o (by show upd x.F p _ a = some o; rw [upd_ne ne]; exact ea)
    · rcases celb i l q c with ⟨a1, a2, a3⟩ | ⟨ne, c1⟩
      · rcases celb m l' q c' with ⟨b1, b2, b3⟩ | ⟨ne', c2⟩
        · rw [a1, b1]
        · exact absurd a3 (yne m l' q c2)
      · rcases celb m l' q c' with ⟨b1, b2, b3⟩ | ⟨ne', c2⟩
        · exact absurd b3 (yne i l q c1)
        · exact sy.dis i m l l' q c1 c2
/-- m runs while slot j's list is lent -/
def lend {α : Type} (T : List Nat) (j : Nat) (okA : α → Bool) (m : M α) : M α := fun r => match r[j]? with
  | some (.cel k ds) => match m (r.set j (.val (.lst ds))) with
    | .ok a r' => if okA a && okT T r' then .ok a (r'.set j (.cel k ds)) else .bad
    | _ => .bad
  | _ => .bad
theorem lend_run {S : List Nat} (hS : ∀ i ∈ S, i ∈ T) {j : Nat} (hj : j ∉ S) {α : Type} {okA : α → Bool} {m : M α} {x : Cf} {Q : α → Cf → Prop} (s : RSt X.K x) (p : Post X.K X.mg T W x (lend S j okA m x.r) Q) :
    ∃ k ds pa us, x.r[j]? = some (.cel k ds) ∧ x.s[j]? = some (some (.ref pa)) ∧ RSt X.K (lent x j pa us ds) ∧ Post X.K X.mg S W (lent x j pa us ds) (m (lent x j pa us ds).r) fun a y => okA a = true ∧ y.F pa = some (.lst us) ∧ Q a (back y j pa k ds) := by
  unfold lend at p
  split at p
  · rename_i k ds e
    obtain ⟨pa, h1, us, h2, h3, h4⟩ := s.cel j k ds e
    refine ⟨k, ds, pa, us, e, h1, lent_ok s e h1 h2 h3 h4, ?_⟩
    show Post X.K X.mg S W (lent x j pa us ds) (m (x.r.set j (.val (.lst ds)))) _
    cases q : m (x.r.set j (.val (.lst ds))) with
    | ok a r' =>
      rw [q] at p
      simp only at p
      split at p
      · rename_i c
        obtain ⟨c1, c2⟩ := Bool.and_eq_true_iff.mp c
        intro y hy fy sy
        rw [← hy] at c2 p
        obtain ⟨b1, b2⟩ := back_ok s e h1 h2 h3 h4 fy sy hj c2
        exact ⟨c1, fy.ff pa _ upd_same, p (back y j pa k ds) rfl (b1.mono hS) b2⟩
      · exact p.elim
    | exc c pl r' => rw [q] at p; exact p.elim
    | bad => rw [q] at p; exact p.elim
  · exact p.elim
theorem se_lend {S : List Nat} (j : Nat) {e : Expr} {m : M D} (h : SE X W S e m) (hS : ∀ i ∈ S, i ∈ T := by decide) (hj : j ∉ S := by decide) : SE X W T e (lend S j noLst m) := by
  obtain ⟨te, pe, ev⟩ := h.ex
  refine ⟨te, pe, fun x Q s p => ?_⟩
  obtain ⟨k, ds, pa, us, h1, h2, s1, p1⟩ := lend_run hS hj s p
  have := ev (lent x j pa us ds) Q s1 (p1.mono fun a y fy sy ⟨c1, c2, q⟩ hs v hv => q hs v (rep_cut c2 hv c1))
  exact this
theorem st_lend {S : List Nat} (j : Nat) {e : Expr} {m : M Bool} (h : ST X W S e m) (hS : ∀ i ∈ S, i ∈ T := by decide) (hj : j ∉ S := by decide) : ST X W T e (lend S j (fun _ => true) m) := by
  obtain ⟨te, pe, ev⟩ := h.ex
  refine ⟨te, pe, fun x Q s p => ?_⟩
  obtain ⟨k, ds, pa, us, h1, h2, s1, p1⟩ := lend_run hS hj s p
  have := ev (lent x j pa us ds) Q s1 (p1.mono fun a y fy sy ⟨c1, c2, q⟩ hs => q hs)
  exact this
/-! ### a list of one's own, frozen from here on -/
def frz {α : Type} (j : Nat) (m : M α) : M α := fun r => match r[j]? with
  | some (.cel .own ds) => m (r.set j (.val (.lst ds)))
  | _ => .bad
theorem frz_run {j : Nat} (hj : j ∈ T) {α : Type} {m : M α} {x : Cf} {Q : α → Cf → Prop} (s : RSt X.K x) (p : Post X.K X.mg T W x (frz j m x.r) Q) :
    ∃ y, y.s = x.s ∧ y.H = x.H ∧ Fr T x y ∧ RSt X.K y ∧ Post X.K X.mg T W y (m y.r) Q := by
  unfold frz at p
  split at p
  · rename_i ds e
    obtain ⟨pa, h1, us, h2, h3, h4⟩ := s.cel j _ ds e
    have f : Fr T x (lent x j pa us ds) := by
      refine ⟨by show (x.r.set j _).length = _; rw [List.length_set], same_upd h4, fun _ h => h, fun a o ea => ?_, fun a o ea _ => ea, fun i l q c => .inr (lent_cel c).2, fun i hi => ?_⟩
      · by_cases ha : a = pa
        · subst ha
          exact .inr (.inr ⟨j, ⟨ds, e⟩, h1⟩)
        · exact .inl ⟨o, by rw [← ea]; exact (upd_ne ha).symm⟩
      · refine ⟨?_, rfl⟩
        show (x.r.set j _)[i]? = _
        rw [List.getElem?_set_ne (by rintro rfl; exact hi hj)]
    exact ⟨lent x j pa us ds, rfl, rfl, f, lent_ok s e h1 h2 h3 h4, p.shift f⟩
  · exact p.elim
theorem se_frz (j : Nat) {e : Expr} {m : M D} (h : SE X W T e m) (hj : j ∈ T := by decide) : SE X W T e (frz j m) := by
  obtain ⟨te, pe, ev⟩ := h.ex
  refine ⟨te, pe, fun x Q s p => ?_⟩
  obtain ⟨y, e1, e2, f, sy, p1⟩ := frz_run hj s p
  rw [← e1, ← e2]
  exact ev y Q sy (p1.mono fun a z _ _ q hs => q (hs.trans e1))
end
end FL
namespace FL
open PySem PySem.Spec L2
/-! ### what a def promises -/
def outR (io : Option Nat) (r outs : List Ent) : List Ent := match io, outs with
  | some i, [e] => r.set i e
  | _, _ => r
def NewL (K : PySem.W.Frag) (x y : Cf) (p : Addr) (ds : List D) : Prop := ∃ us, FreshAt K y p us ds ∧ x.H p = none ∧ ∀ i k, ¬ CelAt y i k p
def RetR (K : PySem.W.Frag) (fr : Bool) (x y : Cf) (v : V) (d : D) : Prop := if fr then ∃ p ds, v = .ref p ∧ d = .lst ds ∧ ∃ us, FreshAt K y p us ds ∧ x.H p = none else Rep K y.F v d
def PostF (K : PySem.W.Frag) (mg : Str → Option Value) (io : Option Nat) (fr : Bool) (x : Cf) (r : R D) (Q : VK) (E : XK) : Prop := match r with
  | .ok d outs => ∀ y : Cf, y.s = x.s → y.r = outR io x.r outs → Fr io.toList x y → RSt K y → ∀ v, RetR K fr x y v d → Q v y.H
  | .exc c pl outs => ∀ (y : Cf) (cls : Value) (dx : Option Addr), y.s = x.s → y.r = outR io x.r outs → Fr io.toList x y → RSt K y → ExcRep K mg y c pl cls dx → E cls dx y.H
  | .bad => False
def SpF (K : PySem.W.Frag) (mg : Str → Option Value) (io : Option Nat) (fr : Bool) (np : Nat) (f : List Ent → R D) : Sp := fun vs H Q E =>
  vs.length = np ∧ ∃ x : Cf, x.H = H ∧ x.s = vs.map some ∧ RSt K x ∧ (∀ i k p, CelAt x i k p → io = some i ∧ k = .io) ∧ PostF K mg io fr x (f x.r) Q E
structure DefOk (P : Program) (w : World) (K : PySem.W.Frag) (mg : Str → Option Value) (base : Heap) (x : Str) (st : Stmt) (ps : List Str) (k : Nat) (io : Option Nat) (fr : Bool) (F : List Ent → R D) : Prop where
  ex : ∃ f fd, mg x = some (.ref f) ∧ PySem.W.keepIn K (.ref f) = true ∧ Fun K x x st f fd ∧ FnOk P w K mg base (L2.CX P w) k f fd ps (SpF K mg io fr ps.length F) ∧ Binds K fd ps []
section
variable {X : Cx} {W : WX} {T : List Nat} {K : PySem.W.Frag}
/-! ### calls -/
theorem WE_eq (W : WX) (σ : L2.St) : WE W σ = fun cls d H => W cls d σ H := rfl
/-- the callee's state: all values -/
def valsOf (ds : List D) : List Ent := ds.map .val
theorem valsOf_get {ds : List D} {i : Nat} {e : Ent} (h : (valsOf ds)[i]? = some e) : ∃ d, ds[i]? = some d ∧ e = .val d := by
  unfold valsOf at h
  rw [List.getElem?_map] at h
  cases q : ds[i]? with
  | none => rw [q] at h; cases h
  | some d => rw [q] at h; exact ⟨d, rfl, (Option.some.inj h).symm⟩
theorem enter_ok {y : Cf} {vs : List V} {ds : List D} (s : RSt K y) (r : RepL K y.F vs ds) : RSt K ⟨y.F, y.H, vs.map some, valsOf ds⟩ ∧ ∀ i k p, ¬ CelAt ⟨y.F, y.H, vs.map some, valsOf ds⟩ i k p := by
  have nc : ∀ i k p, ¬ CelAt ⟨y.F, y.H, vs.map some, valsOf ds⟩ i k p := fun i k p ⟨⟨es, h⟩, _⟩ => by
    obtain ⟨d, _, e⟩ := valsOf_get h
    cases e
  refine ⟨⟨s.sub, by show (vs.map some).length = (valsOf ds).length; unfold valsOf; rw [List.length_map, List.length_map]; exact r.length, fun i d h => ?_, fun i k es h => ?_, fun i j k l p h _ => (nc i k p h).elim⟩, nc⟩
  · obtain ⟨d', h1, h2⟩ := valsOf_get h
    cases h2
    obtain ⟨v, h3, h4⟩ := r.get h1
    exact ⟨v, by show (vs.map some)[i]? = _; rw [List.getElem?_map, h3]; rfl, h4⟩
  · obtain ⟨d, _, e⟩ := valsOf_get h
    cases e
/-- behind a call that changes nothing of the caller's -/
theorem leave_ext {x y z : Cf} (s : RSt K x) (e1 : y.F = x.F) (e2 : y.H = x.H) (nc : ∀ i k p, ¬ CelAt y i k p) (f : Fr [] y z) (sz : RSt K z) : Ext x ⟨z.F, z.H, x.s, x.r⟩ :=
  ⟨rfl, rfl, by rw [← e1]; exact f.ff, fun a o h => f.hp a o (by rw [e2]; exact h) (fun i hi => nomatch hi), sz.sub, fun a o h => by
    rcases f.nw a o h with g | g | ⟨i, g⟩
    · rw [e1] at g; exact .inl g
    · rw [e2] at g; exact .inr g
    · exact (nc i _ a g).elim⟩
def callD (np : Nat) (F : List Ent → R D) (m : M (List D)) : M D := mB m fun ds r => if ds.length = np then (match F (valsOf ds) with
  | .ok d _ => .ok d r
  | .exc c pl _ => .exc c pl r
  | .bad => .bad) else .bad
def callL (np : Nat) (F : List Ent → R D) (m : M (List D)) : M (List D) := mB m fun ds r => if ds.length = np then (match F (valsOf ds) with
  | .ok (.lst es) _ => .ok es r
  | .ok _ _ => .bad
  | .exc c pl _ => .exc c pl r
  | .bad => .bad) else .bad
theorem call_run {mg : Str → Option Value} {np : Nat} {F : List Ent → R D} {y : Cf} {vs : List V} {ds : List D} {Q : VK} {W : WX} {σ : L2.St} (s : RSt K y) (r : RepL K y.F vs ds) (hn : ds.length = np)
    (hok : ∀ d o, F (valsOf ds) = .ok d o → ∀ z, Ext y z → ∀ v, Rep K z.F v d → Q v z.H)
    (hx : ∀ c pl o, F (valsOf ds) = .exc c pl o → ∀ z cls dx, Ext y z → ExcRep K mg z c pl cls dx → W cls dx σ z.H)
    (hb : F (valsOf ds) ≠ .bad) : SpF K mg none false np F vs y.H Q (WE W σ) := by
  obtain ⟨s0, nc⟩ := enter_ok s r
  refine ⟨by rw [r.length]; exact hn, ⟨y.F, y.H, vs.map some, valsOf ds⟩, rfl, rfl, s0, fun i k p h => (nc i k p h).elim, ?_⟩
  show PostF K mg none false _ (F (valsOf ds)) Q (WE W σ)
  cases q : F (valsOf ds) with
  | ok d o => exact fun z _ _ f sz v hv => hok d o q _ (leave_ext (y := ⟨y.F, y.H, vs.map some, valsOf ds⟩) s rfl rfl nc f sz) v hv
  | exc c pl o => exact fun z cls dx _ _ f sz w => hx c pl o q ⟨z.F, z.H, y.s, y.r⟩ cls dx (leave_ext (y := ⟨y.F, y.H, vs.map some, valsOf ds⟩) s rfl rfl nc f sz) w
  | bad => exact hb q
theorem call_runL {mg : Str → Option Value} {np : Nat} {F : List Ent → R D} {y : Cf} {vs : List V} {ds : List D} {Q : VK} {W : WX} {σ : L2.St} (s : RSt K y) (r : RepL K y.F vs ds) (hn : ds.length = np)
    (hok : ∀ d o, F (valsOf ds) = .ok d o → ∀ z, Ext y z → ∀ p es, d = .lst es → NewL K y z p es → Q (.ref p) z.H)
    (hx : ∀ c pl o, F (valsOf ds) = .exc c pl o → ∀ z cls dx, Ext y z → ExcRep K mg z c pl cls dx → W cls dx σ z.H)
    (hb : F (valsOf ds) ≠ .bad) : SpF K mg none true np F vs y.H Q (WE W σ) := by
  obtain ⟨s0, nc⟩ := enter_ok s r
  refine ⟨by rw [r.length]; exact hn, ⟨y.F, y.H, vs.map some, valsOf ds⟩, rfl, rfl, s0, fun i k p h => (nc i k p h).elim, ?_⟩
  show PostF K mg none true _ (F (valsOf ds)) Q (WE W σ)
  cases q : F (valsOf ds) with
  | ok d o =>
    intro z _ _ f sz v hv
    obtain ⟨p, es, rfl, rfl, us, h1, h2⟩ := hv
    refine hok _ o q _ (leave_ext (y := ⟨y.F, y.H, vs.map some, valsOf ds⟩) s rfl rfl nc f sz) p es rfl ⟨us, h1, h2, fun i k c => ?_⟩
    exact not_cel s h2 i k c
  | exc c pl o => exact fun z cls dx _ _ f sz w => hx c pl o q ⟨z.F, z.H, y.s, y.r⟩ cls dx (leave_ext (y := ⟨y.F, y.H, vs.map some, valsOf ds⟩) s rfl rfl nc f sz) w
  | bad => exact hb q
theorem ev_call {np : Nat} {F : List Ent → R D} {ta : TA} {fa : M (List D)} (ea : EvD X W T ta fa) : EvE X W T (tCallSD (SpF X.K X.mg none false np F) [] (WE W) ta) (callD np F fa) := by
  intro x Q s p
  refine ea.bind s p fun ds y f1 s1 e1 vs hv p1 => ?_
  rw [List.append_nil]
  by_cases c : ds.length = np
  · rw [if_pos c] at p1
    refine call_run s1 hv c (fun d o q z ex v hv' => ?_) (fun c pl o q z cls dx ex w => ?_) (fun q => ?_)
    · rw [q] at p1; exact Post.here p1 ex s1 (ex.s.trans e1) v hv'
    · rw [q] at p1
      have := p1 z cls dx ex.r (ex.fr T) (ex.rst s1) w
      rw [ex.s, e1] at this
      exact this
    · rw [q] at p1; exact p1
  · rw [if_neg c] at p1
    exact p1.elim
theorem ev_callL {np : Nat} {F : List Ent → R D} {ta : TA} {fa : M (List D)} (ea : EvD X W T ta fa) : EvL X W T (tCallSD (SpF X.K X.mg none true np F) [] (WE W) ta) (callL np F fa) := by
  intro x Q s p
  refine ea.bind s p fun ds y f1 s1 e1 vs hv p1 => ?_
  rw [List.append_nil]
  by_cases c : ds.length = np
  · rw [if_pos c] at p1
    refine call_runL s1 hv c (fun d o q z ex p es hd hv' => ?_) (fun c pl o q z cls dx ex w => ?_) (fun q => ?_)
    · subst hd
      rw [q] at p1
      obtain ⟨us, h1, h2, h3⟩ := hv'
      exact Post.here p1 ex s1 (ex.s.trans e1) p us h1 (f1.dm p h2) h3
    · rw [q] at p1
      have := p1 z cls dx ex.r (ex.fr T) (ex.rst s1) w
      rw [ex.s, e1] at this
      exact this
    · rw [q] at p1; exact p1
  · rw [if_neg c] at p1
    exact p1.elim
variable {x : Str} {st : Stmt} {ps : List Str} {k : Nat} {F : List Ent → R D} {e : Expr} {es : List Expr} {p pos : Pos}
theorem se_call {np : Nat} (G : DefOk X.prog X.w X.K X.mg X.base x st ps k none false F) (hr : Room k X.A) (tk : Takes X W) {fa : M (List D)} (ha : SD X W T (e :: es) fa) (hg : Gl X x := by rfl) (hdb : (x == ("__debug__" : Str)) = false := by decide)
    (he : starEach (e :: es) X.env = (false, eval e X.env) :: starEach es X.env := by rfl) (hpl : (backTo pos (starEach es X.env)).any (·.1) = false := by rfl) (hn : ps.length = np := by rfl) : SE X W T (.Call (.Name x p) (e :: es) [] pos) (callD np F fa) := by
  subst hn
  obtain ⟨f, fd, hm, hk, _, FO, hb⟩ := G.ex
  obtain ⟨ta, pa, ea⟩ := ha.ex
  exact ⟨_, pe_callSD FO hr hg hm hk hb .nil (fun σ => passAt tk σ) pa hdb he hpl, ev_call ea⟩
theorem el_call {np : Nat} (G : DefOk X.prog X.w X.K X.mg X.base x st ps k none true F) (hr : Room k X.A) (tk : Takes X W) {fa : M (List D)} (ha : SD X W T (e :: es) fa) (hg : Gl X x := by rfl) (hdb : (x == ("__debug__" : Str)) = false := by decide)
    (he : starEach (e :: es) X.env = (false, eval e X.env) :: starEach es X.env := by rfl) (hpl : (backTo pos (starEach es X.env)).any (·.1) = false := by rfl) (hn : ps.length = np := by rfl) : SL X W T (.Call (.Name x p) (e :: es) [] pos) (callL np F fa) := by
  subst hn
  obtain ⟨f, fd, hm, hk, _, FO, hb⟩ := G.ex
  obtain ⟨ta, pa, ea⟩ := ha.ex
  exact ⟨_, pe_callSD FO hr hg hm hk hb .nil (fun σ => passAt tk σ) pa hdb he hpl, ev_callL ea⟩
/-! ### built-ins -/
/-- what a built-in's rule gives on data -/
def CallOk (K : PySem.W.Frag) (r : List V → Hp → VK → Prop) (o : List D → Option D) : Prop :=
  ∀ (x : Cf) (vs : List V) (ds : List D) (z : D) (Q : VK), RSt K x → RepL K x.F vs ds → o ds = some z → (∀ y w, Ext x y → Rep K y.F w z → Q w y.H) → r vs x.H Q
theorem CallOk.or {r r' : List V → Hp → VK → Prop} {o o' : List D → Option D} (h : CallOk K r o) (h' : CallOk K r' o') : CallOk K (fun x H Q => r x H Q ∨ r' x H Q) (fun ds => match o ds with | some z => some z | none => o' ds) := by
  intro x vs ds z Q s hv q k
  cases w : o ds with
  | some z' =>
    simp only [w] at q
    cases q
    exact .inl (h x vs ds _ Q s hv w k)
  | none =>
    simp only [w] at q
    exact .inr (h' x vs ds z Q s hv q k)
theorem CallOk.le {r : List V → Hp → VK → Prop} {o o' : List D → Option D} (h : CallOk K r o) (e : ∀ ds z, o' ds = some z → o ds = some z) : CallOk K r o' := fun x vs ds z Q s hv q k => h x vs ds z Q s hv (e _ _ q) k
def xB (o : List D → Option D) (m : M (List D)) : M D := mB m fun ds => mO (o ds)
theorem ev_b {r : List V → Hp → VK → Prop} {o : List D → Option D} {ta : TA} {fa : M (List D)} (h : CallOk X.K r o) (ea : EvD X W T ta fa) : EvE X W T (tCB r ta) (xB o fa) := by
  intro x Q s p
  refine ea.bind s p fun ds y f1 s1 e1 vs hv p1 => ?_
  cases q : o ds with
  | none => rw [q] at p1; exact p1.elim
  | some z =>
    rw [q] at p1
    exact h y vs ds z Q s1 hv q fun y2 w ex hw => Post.here p1 ex s1 (ex.s.trans e1) w hw
theorem se_b {id : String} {r : List V → Hp → VK → Prop} {o : List D → Option D} {fa : M (List D)} (hc : CallR X (.builtin id) r) (h : CallOk X.K r o) (hm : X.mg x = none) (ha : SD X W T (e :: es) fa) (hv : bootBuiltins x = some (.builtin id)) (hg : Gl X x := by rfl) (hn : x ≠ "__name__" := by decide)
    (hdb : (x == ("__debug__" : Str)) = false := by decide) (he : starEach (e :: es) X.env = (false, eval e X.env) :: starEach es X.env := by rfl) (hpl : (backTo pos (starEach es X.env)).any (·.1) = false := by rfl) : SE X W T (.Call (.Name x p) (e :: es) [] pos) (xB o fa) := by
  obtain ⟨ta, pa, ea⟩ := ha.ex
  exact ⟨_, pe_callB hc hg hm hv pa hn hdb he hpl, ev_b h ea⟩
theorem se_bt {id : String} {r : List V → Hp → VK → Prop} {o : List D → Option D} {fa : M (List D)} (hc : CallR X (.type id) r) (h : CallOk X.K r o) (hm : X.mg x = none) (ha : SD X W T (e :: es) fa) (hv : bootBuiltins x = some (.type id)) (hg : Gl X x := by rfl) (hn : x ≠ "__name__" := by decide)
    (hdb : (x == ("__debug__" : Str)) = false := by decide) (he : starEach (e :: es) X.env = (false, eval e X.env) :: starEach es X.env := by rfl) (hpl : (backTo pos (starEach es X.env)).any (·.1) = false := by rfl) : SE X W T (.Call (.Name x p) (e :: es) [] pos) (xB o fa) := by
  obtain ⟨ta, pa, ea⟩ := ha.ex
  exact ⟨_, pe_callTy hc hg hm hv pa hn hdb he hpl, ev_b h ea⟩
end
end FL
namespace FL
open PySem PySem.Spec L2 Builtin
/-! ### a row walked: a list or a tuple -/
def iSeq (K : PySem.W.Frag) (tl : TE) : TI := fun σ H R => tl σ H fun x H1 => ∃ a, x = .ref a ∧ (((∃ xs, SqL K H1 a xs) ∧ R (Itl K a) H1) ∨ ((∃ xs, SqT K H1 a xs) ∧ R (Itt K a) H1))
theorem pi_seq {X : Cx} {tg l : Expr} {tl : TE} (hl : PE X l tl) : PI X tg l (iSeq X.K tl) := by
  constructor
  intro pins s σ H R I h
  refine thn (hl.run pins s σ H _ I h) fun v s1 w => ?_
  obtain ⟨x, H1, I1, r1, a, e, q⟩ := w
  subst e
  have hv : v = Value.ref a := r1
  subst hv
  have fresh : ∀ b ∈ [s1.heap.objs.size], FpOk X pins H1 b := fun b hb => by
    rw [List.mem_singleton] at hb
    rw [hb]
    exact I1.fpOk (Nat.le_refl _) (I1.hok.fresh (Nat.le_refl _))
  rcases q with ⟨⟨xs, hq⟩, q⟩ | ⟨⟨xs, hq⟩, q⟩
  · obtain ⟨its, rv, pl, hz⟩ := I1.list hq
    refine wpAny_pyIter_list pl.isList ⟨_, [s1.heap.objs.size], _, _, H1, rfl, ?_, turn_list a _, ⟨_, Heap.get?_push_size _ rfl, rfl, rfl⟩, fresh, q⟩
    exact I1.kept (t' := s1.toks) fun b o e => Heap.get?_push_of_some _ e
  · obtain ⟨its, rv, pl, hz⟩ := I1.tuple hq
    have pt : s1.heap.IsTuple a its.toArray := pl
    refine wpAny_pyIter_tuple pt ⟨_, [s1.heap.objs.size], _, _, H1, rfl, ?_, turn_tuple a _, ⟨_, Heap.get?_push_size _ rfl, rfl, rfl⟩, fresh, q⟩
    exact I1.kept (t' := s1.toks) fun b o e => Heap.get?_push_of_some _ e
/-! ### enumerate of a tuple -/
abbrev tupIt (l : Addr) : Obj := { cls := .type "tuple_iterator", data := .fields #[.ref l, .int 0 0] }
abbrev enIt (n : Addr) : Obj := { cls := .type "enumerate", data := .fields #[.none, .bool false, .ref n, rawInt 0, .none, .none] }
theorem en_new (l : Addr) (items : Array Value) (o : Obj) : Meets (Builtin.«enumerate.__new__» ⟨[.type "enumerate", .ref l], []⟩)
    (fun _ R s => s.heap.get? l = some o ∧ o.cls = .type "tuple" ∧ s.heap.IsTuple l items ∧ R (.ok (.ret (.ref (s.heap.push (tupIt l)).objs.size))) { s with heap := (s.heap.push (tupIt l)).push (enIt s.heap.objs.size) }) := by
  refine .of_wp fun prog w A R s h => ?_
  obtain ⟨hp, g, d, tk, os⟩ := s
  obtain ⟨hl, hc, hL, h⟩ := h
  obtain ⟨oc, od, odt, osl⟩ := o
  have hc' : oc = .type "tuple" := hc
  subst hc'
  have hL' : Heap.IsTuple (Shared.heap ⟨hp, g, d, tk, os⟩) l items := hL
  have hs := sub_enumerate
  wp_walk using AutoSeq1.wpAny_loadPart' hl
  refine wpAny_stack_any fun st => wpAny_pure ?_
  split
  · rename_i c _ _ _ _ _
    cases (c == Value.type "enumerate") <;>
    · wp_walk using AutoSeq1.wpAny_loadPart' hl, wpAny_pyIter_tuple hL'
      exact ⟨_, rfl, h⟩
  · wp_walk using AutoSeq1.wpAny_loadPart' hl, wpAny_pyIter_tuple hL'
    exact ⟨_, rfl, h⟩
theorem en_call {prog : Program} {w : World} {A : Around} {E : Value → Shared → Prop} {s : Shared} {l : Addr} {items : Array Value} {Q : Value → Shared → Prop} (hL : s.heap.IsTuple l items)
    (h : ∀ h', IsEnum h' (s.heap.objs.size + 1) s.heap.objs.size 0 .none → h'.IsTupleIter s.heap.objs.size l 0 → h'.objs.size = s.heap.objs.size + 2 → (∀ b o, s.heap.get? b = some o → h'.get? b = some o) → Q (.ref (s.heap.objs.size + 1)) { s with heap := h' }) :
    wpAny (model prog w) A (call (.type "enumerate") [.ref l]) Q E s := by
  obtain ⟨o, ho, hc, ho2⟩ := id hL
  refine callType_new F.called_enumerate (by decide) (F.typeCall_enumerate_1 _) (F.newCall_enumerate_1 _) (fun obj => F.args_object_init_2 obj _) F.entry_enumerate_new (en_new l items o) ⟨ho, hc, hL, ?_⟩
  have hz : (s.heap.push (tupIt l)).objs.size = s.heap.objs.size + 1 := Heap.size_push ..
  show _ ∧ _
  rw [hz]
  have he : IsEnum ((s.heap.push (tupIt l)).push (enIt s.heap.objs.size)) (s.heap.objs.size + 1) s.heap.objs.size 0 .none := by
    have t := Heap.get?_push_size (s.heap.push (tupIt l)) (o := enIt s.heap.objs.size) rfl
    rw [hz] at t
    exact t
  refine ⟨⟨_, he, rfl⟩, h _ he ⟨_, Heap.get?_push_of_some _ (Heap.get?_push_size _ rfl), rfl, rfl⟩ (by rw [Heap.size_push, hz]) fun b o q => ?_⟩
  exact Heap.get?_push_of_some _ (Heap.get?_push_of_some _ q)
/-- the tuple at a, each item in a new pair behind its place -/
def IteT (K : PySem.W.Frag) (a : Addr) : It :=
  ⟨fun i H => ∃ xs x, SqT K H a xs ∧ xs[i]? = some x, fun i H v H' => ∃ t x, v = .ref t ∧ H t = none ∧ H' = upd H t (.tup [.int (i : Nat), x]) ∧ ∀ xs, SqT K H a xs → xs[i]? = some x,
   fun i H => ∃ xs, SqT K H a xs ∧ xs.length = i⟩
theorem turn_enT {P : Program} {w : World} {K : PySem.W.Frag} {elts : List Expr} {kk : Nat} {tpos : Pos} (a e it : Addr) :
    Turn P w K (.Tuple elts kk tpos) (IteT K a) [e, it] e (fun i h => (∃ old, IsEnum h e it ((i : Nat) : Int) old) ∧ h.IsTupleIter it a i ∧ e ≠ it) := by
  refine ⟨by simp, fun i h st b hb => ?_, fun i h h' st k => ?_, ?_, ?_, fun A i s Q E st h => ?_⟩
  · obtain ⟨⟨old, he⟩, ⟨o, ho, hc, hd⟩, _⟩ := st
    rcases List.mem_cons.mp hb with z | z
    · rw [z]; exact ⟨_, he, fun v q => nomatch q⟩
    · rw [List.mem_singleton.mp z]; exact ⟨o, ho, fun v q => by rw [hd] at q; cases q⟩
  · obtain ⟨⟨old, he⟩, hi, hne⟩ := st
    exact ⟨⟨old, k e (by simp) _ he⟩, hi.at fun o q => k it (by simp) o q, hne⟩
  · intro X hP hw hK hc i pins s σ H E I hf st hg
    subst hP hw hK
    obtain ⟨⟨old, he⟩, hit, hne⟩ := st
    obtain ⟨xs, x, hq, hx⟩ := hg
    obtain ⟨its, rv, pt, hz⟩ := I.tuple hq
    have pt' : s.heap.IsTuple a its.toArray := pt
    obtain ⟨u, hu, ru⟩ := rv.get hx
    have hel : e < s.heap.objs.size := Heap.lt_size he
    have hil : it < s.heap.objs.size := by obtain ⟨_, q, _⟩ := hit; exact Heap.lt_size q
    have nai : a ≠ it := by
      rintro rfl
      obtain ⟨o, ho, hcl, _⟩ := hit
      obtain ⟨o', ho', hcl', _⟩ := pt'
      rw [ho] at ho'; cases ho'
      rw [hcl] at hcl'; simp at hcl'
    have nae : a ≠ e := by
      rintro rfl
      obtain ⟨o', ho', hcl', _⟩ := pt'
      have he' : s.heap.get? a = some _ := he
      rw [ho'] at he'
      cases he'
      simp at hcl'
    have Dr := Draws.tuple (prog := X.prog) (w := X.w) (A := X.A.in1) (I.ok.hd hc) it a nai its.toArray
    have lt : i < its.toArray.size := by
      have := (List.getElem?_eq_some_iff.mp hu).1
      simpa using this
    refine wpAny_pyNext_enum_itemD Dr he ⟨hit, pt'⟩ lt hne (by simp [hne, Ne.symm nae]) fun x2 h' tk hx2 ho hst' hT hsz hk => ?_
    have ex : x2 = u := by
      have e1 : its.toArray[i]? = some x2 := hx2
      have e2 : its.toArray[i]? = some u := by simpa using hu
      rw [e1] at e2
      exact Option.some.inj e2
    subst ex
    refine ⟨_, rfl, wpAny_letOwnedTupleGo_enum (s := { s with heap := h', toks := tk + 1 }) ho fun h'' he' sb => ?_⟩
    have hT2 : h''.get? s.heap.objs.size = some { cls := .type "tuple", data := .seq #[.int i tk, x2] } := (sb.2 _ (Nat.ne_of_gt hel)).trans hT
    have hrel : Vals [V.int (i : Nat), x] [.int i tk, x2] := .cons ⟨tk, rfl⟩ (.cons ru .nil)
    have new : ObjOk X.prog X.w (upd H s.heap.objs.size (.tup [.int (i : Nat), x])) h'' s.heap.objs.size (.tup [.int (i : Nat), x]) := ⟨by show 2 ≤ sizeLine; decide, _, hrel, ⟨_, hT2, rfl, _, rfl⟩⟩
    have I1 : Inv X pins σ (upd H s.heap.objs.size (.tup [.int (i : Nat), x])) { s with heap := h'', toks := tk + 1 } := by
      refine I.turnedNew (ch := [e, it]) (fun b ob hb q => ?_) hf (Nat.le_refl _) new
      have b1 : b ≠ e := fun z => hb (by simp [z])
      have b2 : b ≠ it := fun z => hb (by simp [z])
      exact (sb.2 b b1).trans (hk b ob b1 b2 q)
    refine ⟨.ref s.heap.objs.size, _, I1, rfl, ⟨_, x, rfl, I.hok.fresh (Nat.le_refl _), rfl, fun ys hy => by rw [I.tuple_inj hy hq]; exact hx⟩, ⟨⟨x2, ?_⟩, hst'.1.at fun o q => (sb.2 it (Ne.symm hne)).trans q, hne⟩, fun b hb => ?_⟩
    · rw [show ((i + 1 : Nat) : Int) = (i : Int) + 1 by omega]
      exact he'
    · have hb' : b < s.heap.objs.size := by
        rcases List.mem_cons.mp hb with z | z
        · rw [z]; exact hel
        · rw [List.mem_singleton.mp z]; exact hil
      rw [upd_ne (Nat.ne_of_lt hb')]
      exact (hf b hb).1
  · intro X hP hw hK hc i pins s σ H E I hf st hg
    subst hP hw hK
    obtain ⟨⟨old, he⟩, hit, hne⟩ := st
    obtain ⟨xs, hq, hx⟩ := hg
    obtain ⟨its, rv, pt, hz⟩ := I.tuple hq
    have pt' : s.heap.IsTuple a its.toArray := pt
    obtain ⟨f0, f1, f2, f3, f4, f5⟩ := hf it (by simp)
    have nai : a ≠ it := by
      rintro rfl
      obtain ⟨o, ho, hcl, _⟩ := hit
      obtain ⟨o', ho', hcl', _⟩ := pt'
      rw [ho] at ho'; cases ho'
      rw [hcl] at hcl'; simp at hcl'
    have Dr := Draws.tuple (prog := X.prog) (w := X.w) (A := X.A.in1) (I.ok.hd hc) it a nai its.toArray
    have hn : its.toArray.size = i := by rw [List.size_toArray, ← rv.length]; exact hx
    refine wpAny_pyNext_enum_endD Dr he (by rw [hn]; exact ⟨hit, pt'⟩) fun h' eb => ⟨rfl, I.turned (t' := s.toks) (fun b o hb q => eb b o hb q) f0 f1 f3 f4 f5⟩
  · obtain ⟨⟨_, he⟩, _⟩ := st
    exact wpAny_pyIter_enum he h
def iEnumA (K : PySem.W.Frag) (ta : TA) : TI := fun σ H R => ta σ H fun vs H1 => ∃ a xs, vs = [.ref a] ∧ ((SqL K H1 a xs ∧ R (Ite K a) H1) ∨ (SqT K H1 a xs ∧ R (IteT K a) H1))
theorem pi_enumA {X : Cx} {e : Expr} {ta : TA} {p pos tpos : Pos} {elts : List Expr} {kk : Nat} (hg : Gl X "enumerate") (hm : X.mg "enumerate" = none) (ha : PA X [e] ta) (hs : starEach [e] X.env = [(false, eval e X.env)] := by rfl) :
    PI X (.Tuple elts kk tpos) (.Call (.Name "enumerate" p) [e] [] pos) (iEnumA X.K ta) := by
  constructor
  intro pins s σ H R I h
  refine PyProof.Rows.Call_ (ld_blt I hg hm PyProof.Rows.boot_enumerate (PyProof.Rows.callWith_type1 (thn (ha.run pos pins s σ H _ I h) fun us s1 w => ?_) hs rfl))
  obtain ⟨vs, H1, I1, r1, a, xs, ex, q⟩ := w
  subst ex
  cases r1 with
  | cons r rr =>
    cases rr
    cases r
    have fresh : ∀ b ∈ [s1.heap.objs.size + 1, s1.heap.objs.size], FpOk X pins H1 b := fun b hb => by
      have hle : s1.heap.objs.size ≤ b := by
        rcases List.mem_cons.mp hb with z | z
        · rw [z]; exact Nat.le_succ _
        · rw [List.mem_singleton.mp z]; exact Nat.le_refl _
      exact I1.fpOk hle (I1.hok.fresh hle)
    rcases q with ⟨hq, q⟩ | ⟨hq, q⟩
    · obtain ⟨its, rv, pl, hz⟩ := I1.list hq
      refine call_enumerate_list pl.isList fun h' he hit hsz hk => wpAny_pyIter_enum he ?_
      exact ⟨_, _, _, _, H1, rfl, I1.kept (t' := s1.toks) hk, turn_enum a _ _, ⟨⟨.none, he⟩, hit, Nat.succ_ne_self _⟩, fresh, q⟩
    · obtain ⟨its, rv, pt, hz⟩ := I1.tuple hq
      have pt' : s1.heap.IsTuple a its.toArray := pt
      refine en_call pt' fun h' he hit hsz hk => wpAny_pyIter_enum he ?_
      exact ⟨_, _, _, _, H1, rfl, I1.kept (t' := s1.toks) hk, turn_enT a _ _, ⟨⟨.none, he⟩, hit, Nat.succ_ne_self _⟩, fresh, q⟩
theorem walk_enT {K : PySem.W.Frag} {a : Addr} {xs : List V} : Walk (IteT K a) xs.length (fun H => SqT K H a xs) (YPair (fun i => some (.int (i : Nat))) (fun i => xs[i]?)) := by
  refine ⟨fun i _ hi q => ⟨xs, xs[i], q, by simp [hi]⟩, fun _ q => ⟨xs, q, rfl⟩, fun i H v H' _ q y => ?_⟩
  obtain ⟨t, x, h1, h2, h3, h4⟩ := y
  exact ⟨t, _, x, h1, h2, h3, rfl, h4 xs q⟩
end FL
namespace FL
open PySem PySem.Spec L2
/-! ### statements -/
inductive Fl where | nx | br | co | rt (d : D) | rtL (ds : List D)
def SQ (K : PySem.W.Frag) (x : Cf) (Dn : Ends) : Fl → Cf → Prop := fun fl y => match fl with
  | .nx => Dn.nx y.s y.H
  | .br => Dn.bk y.s y.H
  | .co => Dn.ct y.s y.H
  | .rt d => ∀ v, Rep K y.F v d → Dn.rt v y.H
  | .rtL ds => ∀ p us, FreshAt K y p us ds → (x.H p = none ∨ ∃ i, CelAt x i .own p) → Dn.rt (.ref p) y.H
theorem SQ.shift {K : PySem.W.Frag} {T : List Nat} {x y : Cf} {Dn : Ends} (f : Fr T x y) {fl : Fl} {z : Cf} (h : SQ K x Dn fl z) : SQ K y Dn fl z := by
  cases fl <;> try exact h
  intro p us hp q
  refine h p us hp ?_
  rcases q with q | ⟨i, q⟩
  · exact .inl (f.dm p q)
  · rcases f.cc i _ p q with ⟨_, g⟩ | g
    · exact .inl g
    · exact .inr ⟨i, g⟩
section
variable (X : Cx) (W : WX) (T : List Nat)
def EvS (ts : TS) (f : M Fl) : Prop := ∀ (x : Cf) (Dn : Ends), RSt X.K x → Post X.K X.mg T W x (f x.r) (SQ X.K x Dn) → ts Dn x.s x.H
structure SS (st : Stmt) (f : M Fl) : Prop where
  ex : ∃ ts, PS X st ts ∧ EvS X W T ts f
structure SSs (sts : List Stmt) (f : M Fl) : Prop where
  ex : ∃ ts, PSs X sts ts ∧ EvS X W T ts f
/-- a target -/
def EvG (g : TG) (f : D → M Unit) : Prop := ∀ (x : Cf) (v : V) (d : D) (Q : L2.St → Hp → Prop), RSt X.K x → Rep X.K x.F v d → Post X.K X.mg T W x (f d x.r) (fun _ y => Q y.s y.H) → g v x.s x.H Q
def EvGs (g : TGs) (f : List D → M Unit) : Prop := ∀ (x : Cf) (vs : List V) (ds : List D) (Q : L2.St → Hp → Prop), RSt X.K x → RepL X.K x.F vs ds → Post X.K X.mg T W x (f ds x.r) (fun _ y => Q y.s y.H) → g vs x.s x.H Q
structure SG (tg : Expr) (f : D → M Unit) : Prop where
  ex : ∃ g, PG X tg g ∧ EvG X W T g f
structure SGs (tgs : List Expr) (f : List D → M Unit) : Prop where
  ex : ∃ g, PGs X tgs g ∧ EvGs X W T g f
end
section
variable {X : Cx} {W : WX} {T : List Nat} {K : PySem.W.Frag}
def sSeq (f g : M Fl) : M Fl := mB f fun fl => match fl with
  | .nx => g
  | o => mP o
theorem post_ok {α : Type} {mg : Str → Option Value} {x y : Cf} {a : α} {Q : α → Cf → Prop} (h : Post K mg T W x (.ok a y.r) Q) (f : Fr T x y) (s : RSt K y) : Q a y := h y rfl f s
theorem EvS.seq {t u : TS} {f g : M Fl} (hf : EvS X W T t f) (hg : EvS X W T u g) : EvS X W T (tSeq t u) (sSeq f g) := by
  intro x Dn s p
  refine hf x { Dn with nx := u Dn } s ?_
  unfold sSeq mB at p
  cases e : f x.r with
  | ok fl ρ =>
    simp only [e] at p
    intro y hy fr sy
    rw [← hy] at p
    cases fl with
    | nx => exact hg y Dn sy ((p.shift fr).mono fun a z _ _ q => SQ.shift fr q)
    | br => exact p y rfl fr sy
    | co => exact p y rfl fr sy
    | rt d => exact p y rfl fr sy
    | rtL ds => exact p y rfl fr sy
  | exc c pl ρ => simp only [e] at p; exact p
  | bad => simp only [e] at p; exact p
theorem ss_nil : SSs X W T [] (mP .nx) := ⟨_, pss_nil, fun x Dn s p => p x rfl (Fr.refl T x) s⟩
theorem ss_cons {st : Stmt} {sts : List Stmt} {f g : M Fl} (h : SS X W T st f) (hs : SSs X W T sts g) : SSs X W T (st :: sts) (sSeq f g) := by
  obtain ⟨t, p, e⟩ := h.ex
  obtain ⟨u, q, e2⟩ := hs.ex
  exact ⟨_, pss_cons p q, e.seq e2⟩
theorem ss_one {st : Stmt} {f : M Fl} (h : SS X W T st f) : SSs X W T [st] f := by
  obtain ⟨t, p, e⟩ := h.ex
  exact ⟨_, pss_one p, e⟩
theorem ss_pass {pos} : SS X W T (.Pass pos) (mP .nx) := ⟨_, ps_pass, fun x Dn s p => p x rfl (Fr.refl T x) s⟩
theorem ss_break {pos} : SS X W T (.Break pos) (mP .br) := ⟨_, ps_break, fun x Dn s p => p x rfl (Fr.refl T x) s⟩
theorem ss_cont {pos} : SS X W T (.Continue pos) (mP .co) := ⟨_, ps_continue, fun x Dn s p => p x rfl (Fr.refl T x) s⟩
def sIf (c : M Bool) (a b : M Fl) : M Fl := mB c fun k => if k then a else b
theorem ss_if {c : Expr} {a b : List Stmt} {pos : Pos} {fc : M Bool} {fa fb : M Fl} (hc : ST X W T c fc) (ha : SSs X W T a fa) (hb : SSs X W T b fb) : SS X W T (.If c a b pos) (sIf fc fa fb) := by
  obtain ⟨tc, pc, ec⟩ := hc.ex
  obtain ⟨ta, pa, ea⟩ := ha.ex
  obtain ⟨tb, pb, eb⟩ := hb.ex
  refine ⟨_, ps_if pc pa pb, fun x Dn s p => ?_⟩
  refine ec.bind s p fun k y f1 s1 e1 p1 => ?_
  have p2 := p1.mono fun a z _ _ q => SQ.shift f1 q
  cases k with
  | true =>
    show ta Dn x.s y.H
    rw [← e1]
    exact ea y Dn s1 p2
  | false =>
    show tb Dn x.s y.H
    rw [← e1]
    exact eb y Dn s1 p2
def sExpr (m : M D) : M Fl := mB m fun _ => mP .nx
theorem ss_expr {e : Expr} {pos : Pos} {f : M D} (h : SE X W T e f) (hs : swapsWith e none pos.line X.env = pure false := by rfl) : SS X W T (.Expr e pos) (sExpr f) := by
  obtain ⟨te, pe, ev⟩ := h.ex
  refine ⟨_, ps_expr pe hs, fun x Dn s p => ?_⟩
  refine ev.bind s p fun d y f1 s1 e1 v hv p1 => ?_
  show Dn.nx x.s y.H
  rw [← e1]
  exact p1 y rfl (Fr.refl T y) s1
def sRet (m : M D) : M Fl := mB m fun d => mP (.rt d)
theorem ss_ret {e : Expr} {pos : Pos} {f : M D} (h : SE X W T e f) : SS X W T (.Return (some e) pos) (sRet f) := by
  obtain ⟨te, pe, ev⟩ := h.ex
  refine ⟨_, ps_ret pe, fun x Dn s p => ?_⟩
  exact ev.bind s p fun d y f1 s1 e1 v hv p1 => p1 y rfl (Fr.refl T y) s1 v hv
theorem ss_retN {pos : Pos} : SS X W T (.Return none pos) (mP (.rt .non)) := ⟨_, ps_retN, fun x Dn s p => p x rfl (Fr.refl T x) s _ .non⟩
theorem EvL.bind {α : Type} {te : TE} {f : M (List D)} {k : List D → M α} {x : Cf} {Q : VK} {Qf : α → Cf → Prop} (h : EvL X W T te f) (s : RSt X.K x) (p : Post X.K X.mg T W x (mB f k x.r) Qf)
    (n : ∀ ds y, Fr T x y → RSt X.K y → y.s = x.s → ∀ q us, FreshAt X.K y q us ds → x.H q = none → (∀ i k, ¬ CelAt y i k q) → Post X.K X.mg T W y (k ds y.r) Qf → Q (.ref q) y.H) : te x.s x.H Q := by
  refine h x Q s ?_
  unfold mB at p
  cases e : f x.r with
  | ok d ρ =>
    simp only [e] at p
    intro y hy fr sy hs q us h1 h2 h3
    rw [← hy] at p
    exact n d y fr sy hs q us h1 h2 h3 (p.shift fr)
  | exc c pl ρ => simp only [e] at p; exact p
  | bad => simp only [e] at p; exact p
def sRetL (m : M (List D)) : M Fl := mB m fun ds => mP (.rtL ds)
theorem ss_retL {e : Expr} {pos : Pos} {f : M (List D)} (h : SL X W T e f) : SS X W T (.Return (some e) pos) (sRetL f) := by
  obtain ⟨te, pe, ev⟩ := h.ex
  refine ⟨_, ps_ret pe, fun x Dn s p => ?_⟩
  exact ev.bind s p fun ds y f1 s1 e1 q us h1 h2 h3 p1 => p1 y rfl (Fr.refl T y) s1 q us h1 (.inl h2)
/-- return of a list of one's own -/
def sRetC (i : Nat) : M Fl := fun r => match r[i]? with
  | some (.cel .own ds) => .ok (.rtL ds) r
  | _ => .bad
theorem ss_retC (i : Nat) {x : Str} {p1 pos : Pos} (hN : X.N[i]? = some x := by rfl) (hv : Vis X.env.scope x := by first | exact Or.inl rfl | exact Or.inr (Or.inl rfl) | exact Or.inr (Or.inr rfl)) (hd : (x == ("__debug__" : Str)) = false := by decide)
    (hc : (x == ("__classdict__" : Str)) = false := by decide) : SS X W T (.Return (some (.Name x p1)) pos) (sRetC i) := by
  refine ⟨_, ps_ret (pe_var (i := i) hN hv hd hc), fun x Dn s p => ?_⟩
  unfold sRetC at p
  split at p
  · rename_i ds e
    obtain ⟨q, h1, us, h2, h3, h4⟩ := s.cel i _ ds e
    exact ⟨_, h1, p x rfl (Fr.refl T x) s q us ⟨h3, h4, h2⟩ (.inr ⟨i, ⟨ds, e⟩, h1⟩)⟩
  · exact p.elim
/-! ### stores -/
/-- slot i holds d -/
def setv (i : Nat) (d : D) : M Unit := fun r => if i < r.length then .ok () (r.set i (.val d)) else .bad
theorem get_set {α : Type} {l : List α} {i j : Nat} {a b : α} (h : (l.set i a)[j]? = some b) : (i = j ∧ a = b ∧ i < l.length) ∨ (i ≠ j ∧ l[j]? = some b) := by
  by_cases e : i = j
  · subst e
    by_cases hl : i < l.length
    · rw [List.getElem?_set_self hl] at h
      exact .inl ⟨rfl, Option.some.inj h, hl⟩
    · rw [List.getElem?_eq_none (by simpa using hl)] at h; cases h
  · rw [List.getElem?_set_ne e] at h
    exact .inr ⟨e, h⟩
theorem setv_cel {x : Cf} {i : Nat} {v : V} {d : D} {j : Nat} {k : CK} {p : Addr} (h : CelAt ⟨x.F, x.H, x.s.set i (some v), x.r.set i (.val d)⟩ j k p) : i ≠ j ∧ CelAt x j k p := by
  obtain ⟨⟨es, h1⟩, h2⟩ := h
  rcases get_set h1 with ⟨_, e, _⟩ | ⟨e, g⟩
  · cases e
  · refine ⟨e, ⟨es, g⟩, ?_⟩
    have h2' : (x.s.set i (some v))[j]? = some (some (.ref p)) := h2
    rwa [List.getElem?_set_ne e] at h2'
theorem setv_ok {x : Cf} {i : Nat} {v : V} {d : D} (s : RSt K x) (h : Rep K x.F v d) (hi : i ∈ T) : Fr T x ⟨x.F, x.H, x.s.set i (some v), x.r.set i (.val d)⟩ ∧ RSt K ⟨x.F, x.H, x.s.set i (some v), x.r.set i (.val d)⟩ := by
  constructor
  · refine ⟨List.length_set .., Same.refl _, fun _ h => h, fun a o e => .inl ⟨o, e⟩, fun a o e _ => e, fun j k p c => .inr (setv_cel c).2, fun j hj => ?_⟩
    have ne : i ≠ j := fun e => hj (e ▸ hi)
    exact ⟨List.getElem?_set_ne ne, List.getElem?_set_ne ne⟩
  · refine ⟨s.sub, by show (x.s.set i _).length = (x.r.set i _).length; rw [List.length_set, List.length_set]; exact s.len, fun j e h1 => ?_, fun j k es h1 => ?_, fun j l k k' p c c' => s.dis j l k k' p (setv_cel c).2 (setv_cel c').2⟩
    · rcases get_set h1 with ⟨e1, e2, hl⟩ | ⟨e1, g⟩
      · subst e1
        cases e2
        exact ⟨v, by show (x.s.set i _)[i]? = _; rw [List.getElem?_set_self (by rw [s.len]; exact hl)], h⟩
      · obtain ⟨w, h2, h3⟩ := s.val j e g
        exact ⟨w, by show (x.s.set i _)[j]? = _; rw [List.getElem?_set_ne e1]; exact h2, h3⟩
    · rcases get_set h1 with ⟨e1, e2, hl⟩ | ⟨e1, g⟩
      · cases e2
      · obtain ⟨q, h2, h3⟩ := s.cel j k es g
        exact ⟨q, by show (x.s.set i _)[j]? = _; rw [List.getElem?_set_ne e1]; exact h2, h3⟩
theorem setv_run {x : Cf} {i : Nat} {v : V} {d : D} {α : Type} {k : M α} {Q : α → Cf → Prop} (s : RSt X.K x) (h : Rep X.K x.F v d) (hi : i ∈ T) (p : Post X.K X.mg T W x (mB (setv i d) (fun _ => k) x.r) Q) :
    Post X.K X.mg T W ⟨x.F, x.H, x.s.set i (some v), x.r.set i (.val d)⟩ (k (x.r.set i (.val d))) Q ∧ Fr T x ⟨x.F, x.H, x.s.set i (some v), x.r.set i (.val d)⟩ ∧ RSt X.K ⟨x.F, x.H, x.s.set i (some v), x.r.set i (.val d)⟩ := by
  obtain ⟨f, s1⟩ := setv_ok s h hi
  unfold mB setv at p
  by_cases c : i < x.r.length
  · simp only [c, if_true] at p
    exact ⟨p.shift f, f, s1⟩
  · simp only [c, if_false] at p
    exact p.elim
def sSet (i : Nat) (m : M D) : M Fl := mB m fun d => mB (setv i d) fun _ => mP .nx
theorem ev_set (i : Nat) {te : TE} {f : M D} (ev : EvE X W T te f) (hT : i ∈ T) : EvS X W T (tAsg te (gName i)) (sSet i f) := by
  intro x Dn s p
  refine ev.bind s p fun d y f1 s1 e1 v hv p1 => ?_
  obtain ⟨p2, f2, s2⟩ := setv_run s1 hv hT p1
  show Dn.nx (x.s.set i (some v)) y.H
  rw [← e1]
  exact p2 _ rfl (Fr.refl T _) s2
theorem ss_set (i : Nat) {x : Str} {e : Expr} {f : M D} {pos pos' : Pos} (hN : X.N.Nodup) (he : SE X W T e f) (hi : X.N[i]? = some x := by rfl) (hx : Loc X.env.scope x := by first | exact Or.inl rfl | exact Or.inr rfl) (hT : i ∈ T := by decide)
    (hs : swapsWith e (some (.Name x pos')) pos.line X.env = pure false := by rfl) (hf : X.fn x = true ∨ X.env.scope.names.lookup x = some .local := by first | exact .inl rfl | exact .inr rfl) : SS X W T (.Assign [.Name x pos'] e pos) (sSet i f) := by
  obtain ⟨te, pe, ev⟩ := he.ex
  exact ⟨_, ps_set hN hi hx pe hs hf, ev_set i ev hT⟩
def setc (i : Nat) (k : CK) (ds : List D) : M Unit := fun r => if i < r.length then .ok () (r.set i (.cel k ds)) else .bad
def sSetL (i : Nat) (m : M (List D)) : M Fl := mB m fun ds => mB (setc i .own ds) fun _ => mP .nx
theorem setc_ok {x : Cf} {i : Nat} {p : Addr} {us : List V} {ds : List D} (s : RSt K x) (h : FreshAt K x p us ds) (nc : ∀ i k, ¬ CelAt x i k p) :
    (∀ j k q, CelAt ⟨x.F, x.H, x.s.set i (some (.ref p)), x.r.set i (.cel .own ds)⟩ j k q → (j = i ∧ k = .own ∧ q = p) ∨ (j ≠ i ∧ CelAt x j k q)) ∧ RSt K ⟨x.F, x.H, x.s.set i (some (.ref p)), x.r.set i (.cel .own ds)⟩ := by
  have key : ∀ j k q, CelAt ⟨x.F, x.H, x.s.set i (some (.ref p)), x.r.set i (.cel .own ds)⟩ j k q → (j = i ∧ k = .own ∧ q = p) ∨ (j ≠ i ∧ CelAt x j k q) := fun j k q c => by
    obtain ⟨⟨es, h1⟩, h2⟩ := c
    have h2' : (x.s.set i (some (V.ref p)))[j]? = some (some (.ref q)) := h2
    rcases get_set h1 with ⟨e, e2, _⟩ | ⟨e, g⟩
    · subst e
      cases e2
      rcases get_set h2' with ⟨_, e3, _⟩ | ⟨e3, _⟩
      · cases e3; exact .inl ⟨rfl, rfl, rfl⟩
      · exact (e3 rfl).elim
    · rw [List.getElem?_set_ne e] at h2'
      exact .inr ⟨Ne.symm e, ⟨es, g⟩, h2'⟩
  refine ⟨key, s.sub, by show (x.s.set i _).length = (x.r.set i _).length; rw [List.length_set, List.length_set]; exact s.len, fun j e h1 => ?_, fun j k es h1 => ?_, fun j l k k' q c c' => ?_⟩
  · rcases get_set h1 with ⟨_, e2, _⟩ | ⟨e1, g⟩
    · cases e2
    · obtain ⟨w, h2, h3⟩ := s.val j e g
      exact ⟨w, by show (x.s.set i _)[j]? = _; rw [List.getElem?_set_ne e1]; exact h2, h3⟩
  · rcases get_set h1 with ⟨e1, e2, hl⟩ | ⟨e1, g⟩
    · subst e1
      cases e2
      exact ⟨p, by show (x.s.set i _)[i]? = _; rw [List.getElem?_set_self (by rw [s.len]; exact hl)], us, h.2.2, h.1, h.2.1⟩
    · obtain ⟨q, h2, h3⟩ := s.cel j k es g
      exact ⟨q, by show (x.s.set i _)[j]? = _; rw [List.getElem?_set_ne e1]; exact h2, h3⟩
  · rcases key j k q c with ⟨a1, a2, a3⟩ | ⟨a1, a2⟩
    · rcases key l k' q c' with ⟨b1, b2, b3⟩ | ⟨b1, b2⟩
      · rw [a1, b1]
      · rw [a3] at b2; exact (nc _ _ b2).elim
    · rcases key l k' q c' with ⟨b1, b2, b3⟩ | ⟨b1, b2⟩
      · rw [b3] at a2; exact (nc _ _ a2).elim
      · exact s.dis j l k k' q a2 b2
theorem ev_setL (i : Nat) {te : TE} {f : M (List D)} (ev : EvL X W T te f) (hT : i ∈ T) : EvS X W T (tAsg te (gName i)) (sSetL i f) := by
  intro x Dn s p
  refine ev x _ s ?_
  unfold sSetL mB at p
  cases e : f x.r with
  | exc c pl ρ => simp only [e] at p; exact p
  | bad => simp only [e] at p; exact p
  | ok ds ρ =>
    simp only [e] at p
    intro y hy f1 s1 e1 q us h1 h2 h3
    rw [← hy] at p
    obtain ⟨key, s2⟩ := setc_ok (i := i) s1 h1 h3
    unfold setc at p
    by_cases c : i < y.r.length
    · simp only [c, if_true] at p
      show Dn.nx (x.s.set i (some (.ref q))) y.H
      rw [← e1]
      refine p ⟨y.F, y.H, y.s.set i (some (.ref q)), y.r.set i (.cel .own ds)⟩ rfl ⟨(List.length_set ..).trans f1.ln, f1.ff, f1.dm, f1.nw, f1.hp, fun j k a cc => ?_, fun j hj => ?_⟩ s2
      · rcases key j k a cc with ⟨_, a2, a3⟩ | ⟨_, a2⟩
        · exact .inl ⟨a2, by rw [a3]; exact h2⟩
        · exact f1.cc j k a a2
      · have ne : i ≠ j := fun z => hj (z ▸ hT)
        obtain ⟨g1, g2⟩ := f1.un j hj
        exact ⟨(List.getElem?_set_ne ne).trans g1, (List.getElem?_set_ne ne).trans g2⟩
    · simp only [c, if_false] at p
      exact p.elim
theorem ss_setL (i : Nat) {x : Str} {e : Expr} {f : M (List D)} {pos pos' : Pos} (hN : X.N.Nodup) (he : SL X W T e f) (hi : X.N[i]? = some x := by rfl) (hx : Loc X.env.scope x := by first | exact Or.inl rfl | exact Or.inr rfl) (hT : i ∈ T := by decide)
    (hs : swapsWith e (some (.Name x pos')) pos.line X.env = pure false := by rfl) (hf : X.fn x = true ∨ X.env.scope.names.lookup x = some .local := by first | exact .inl rfl | exact .inr rfl) : SS X W T (.Assign [.Name x pos'] e pos) (sSetL i f) := by
  obtain ⟨te, pe, ev⟩ := he.ex
  exact ⟨_, ps_set hN hi hx pe hs hf, ev_setL i ev hT⟩
end
end FL
namespace FL
open PySem PySem.Spec L2
section
variable {X : Cx} {W : WX} {T : List Nat} {K : PySem.W.Frag}
/-! ### targets -/
theorem sg_name (i : Nat) {x : Str} {pos : Pos} (hN : X.N.Nodup) (hi : X.N[i]? = some x := by rfl) (hx : Loc X.env.scope x := by first | exact Or.inl rfl | exact Or.inr rfl) (hT : i ∈ T := by decide)
    (hf : X.fn x = true ∨ X.env.scope.names.lookup x = some .local := by first | exact .inl rfl | exact .inr rfl) : SG X W T (.Name x pos) (setv i) := by
  refine ⟨_, pg_name hN hi hx hf, fun x v d Q s h p => ?_⟩
  obtain ⟨f, s1⟩ := setv_ok (d := d) s h hT
  unfold setv at p
  by_cases c : i < x.r.length
  · simp only [c, if_true] at p
    exact p _ rfl f s1
  · simp only [c, if_false] at p
    exact p.elim
def gsCons (f : D → M Unit) (g : List D → M Unit) : List D → M Unit := fun ds => match ds with
  | d :: r => mB (f d) fun _ => g r
  | [] => fun _ => .bad
def gsNil : List D → M Unit := fun ds => match ds with
  | [] => mP ()
  | _ => fun _ => .bad
theorem sgs_nil : SGs X W T [] gsNil := ⟨_, pgs_nil, fun x vs ds Q s h p => by
  cases h with
  | nil => exact ⟨rfl, p x rfl (Fr.refl T x) s⟩
  | cons _ _ => exact p.elim⟩
theorem sgs_cons {t : Expr} {ts : List Expr} {f : D → M Unit} {g : List D → M Unit} (h : SG X W T t f) (hs : SGs X W T ts g) (ha : (assignEach (t :: ts) X.env).map (·.2) = assign t X.env :: (assignEach ts X.env).map (·.2) := by rfl) : SGs X W T (t :: ts) (gsCons f g) := by
  obtain ⟨u, pu, eu⟩ := h.ex
  obtain ⟨v, pv, ev⟩ := hs.ex
  refine ⟨_, pgs_cons pu pv ha, fun x vs ds Q s h p => ?_⟩
  cases h with
  | nil => exact p.elim
  | @cons a as d ds h r =>
    refine ⟨a, as, rfl, eu x a d _ s h ?_⟩
    show Post _ _ _ _ _ (f d x.r) _
    have p' : Post X.K X.mg T W x (mB (f d) (fun _ => g ds) x.r) (fun _ y => Q y.s y.H) := p
    unfold mB at p'
    cases e : f d x.r with
    | exc c pl ρ => simp only [e] at p'; exact p'
    | bad => simp only [e] at p'; exact p'
    | ok z ρ =>
      simp only [e] at p'
      intro y hy fr sy
      rw [← hy] at p'
      exact ev y as ds Q sy (r.mono fr.ff) (p'.shift fr)
def gsTup (n : Nat) (g : List D → M Unit) : D → M Unit := fun d => match d with
  | .tup ds => if ds.length = n then g ds else fun _ => .bad
  | _ => fun _ => .bad
theorem sg_tup {es : List Expr} {k : Nat} {pos : Pos} {g : List D → M Unit} {n : Nat} (hc : X.calm = true) (h : SGs X W T es g) (hn : (assignEach es X.env).length = n := by rfl) (hst : (assignEach es X.env).findIdx? (·.1) = none := by rfl) :
    SG X W T (.Tuple es k pos) (gsTup n g) := by
  obtain ⟨u, pu, eu⟩ := h.ex
  refine ⟨_, pg_tup hc pu hn hst, fun x v d Q s h p => ?_⟩
  cases d <;> try exact p.elim
  rename_i ds
  cases h with
  | tup ha r =>
    have p' : Post X.K X.mg T W x ((if ds.length = n then g ds else fun _ => .bad) x.r) (fun _ y => Q y.s y.H) := p
    by_cases c : ds.length = n
    · rw [if_pos c] at p'
      exact ⟨_, _, rfl, sameT s.sub ha, by rw [r.length]; exact c, eu x _ ds Q s r p'⟩
    · rw [if_neg c] at p'
      exact p'.elim
/-- slot j's list with another item at a place -/
def updc (j : Nat) (f : List D → Option (List D)) : M Unit := fun r => match r[j]? with
  | some (.cel k ds) => match f ds with
    | some es => .ok () (r.set j (.cel k es))
    | none => .bad
  | _ => .bad
theorem updc_ok {x : Cf} {j : Nat} {k : CK} {ds es : List D} {p : Addr} {us ws : List V} (s : RSt K x) (h : x.r[j]? = some (.cel k ds)) (hs : x.s[j]? = some (some (.ref p))) (fp : x.F p = none) (hp : x.H p = some (.lst us)) (r : RepL K x.F ws es) (hj : j ∈ T) :
    Fr T x ⟨x.F, upd x.H p (.lst ws), x.s, x.r.set j (.cel k es)⟩ ∧ RSt K ⟨x.F, upd x.H p (.lst ws), x.s, x.r.set j (.cel k es)⟩ := by
  have celx : CelAt x j k p := ⟨⟨ds, h⟩, hs⟩
  have key : ∀ i l q, CelAt ⟨x.F, upd x.H p (.lst ws), x.s, x.r.set j (.cel k es)⟩ i l q → CelAt x i l q := fun i l q ⟨⟨gs, h1⟩, h2⟩ => by
    rcases get_set h1 with ⟨e1, e2, _⟩ | ⟨e1, g⟩
    · subst e1
      cases e2
      exact ⟨⟨ds, h⟩, h2⟩
    · exact ⟨⟨gs, g⟩, h2⟩
  constructor
  · refine ⟨List.length_set .., Same.refl _, fun a e => ?_, fun a o e => .inl ⟨o, e⟩, fun a o e n => ?_, fun i l q c => .inr (key i l q c), fun i hi => ⟨List.getElem?_set_ne (fun z => hi (by rw [← z]; exact hj)), rfl⟩⟩
    · by_cases z : a = p
      · subst z
        have e' : upd x.H a (HO.lst ws) a = none := e
        rw [upd_same] at e'; cases e'
      · rw [← e]; exact (upd_ne z).symm
    · have z : a ≠ p := fun z => n j hj k (z ▸ celx)
      show upd x.H p _ a = some o
      rw [upd_ne z]; exact e
  · refine ⟨fun a o e => ?_, by show x.s.length = (x.r.set j _).length; rw [List.length_set]; exact s.len, fun i d e => ?_, fun i l gs e => ?_, fun i m l l' q c c' => s.dis i m l l' q (key _ _ _ c) (key _ _ _ c')⟩
    · have z : a ≠ p := by rintro rfl; rw [fp] at e; cases e
      show upd x.H p _ a = some o
      rw [upd_ne z]; exact s.sub a o e
    · rcases get_set e with ⟨_, e2, _⟩ | ⟨e1, g⟩
      · cases e2
      · exact s.val i d g
    · rcases get_set e with ⟨e1, e2, _⟩ | ⟨e1, g⟩
      · subst e1
        cases e2
        exact ⟨p, hs, ws, r, upd_same, fp⟩
      · obtain ⟨q, h1, vs, h2, h3, h4⟩ := s.cel i l gs g
        have z : q ≠ p := fun z => e1 (s.dis j i k l p celx ⟨⟨gs, g⟩, by rw [← z]; exact h1⟩)
        exact ⟨q, h1, vs, h2, by show upd x.H p _ q = _; rw [upd_ne z]; exact h3, h4⟩
theorem updc_run {x : Cf} {j : Nat} {f : List D → Option (List D)} {α : Type} {m : M α} {Q : α → Cf → Prop} (s : RSt X.K x) (hj : j ∈ T) (p : Post X.K X.mg T W x (mB (updc j f) (fun _ => m) x.r) Q) :
    ∃ k ds es q us, x.s[j]? = some (some (.ref q)) ∧ x.H q = some (.lst us) ∧ RepL X.K x.F us ds ∧ f ds = some es ∧
      ∀ ws, RepL X.K x.F ws es → RSt X.K ⟨x.F, upd x.H q (.lst ws), x.s, x.r.set j (.cel k es)⟩ ∧ Fr T x ⟨x.F, upd x.H q (.lst ws), x.s, x.r.set j (.cel k es)⟩ ∧ Post X.K X.mg T W ⟨x.F, upd x.H q (.lst ws), x.s, x.r.set j (.cel k es)⟩ (m (x.r.set j (.cel k es))) Q := by
  unfold mB updc at p
  cases e : x.r[j]? with
  | none => simp only [e] at p; exact p.elim
  | some en =>
    simp only [e] at p
    cases en with
    | no => exact p.elim
    | val d => exact p.elim
    | cel k ds =>
      cases g : f ds with
      | none => simp only [g] at p; exact p.elim
      | some es =>
        simp only [g] at p
        obtain ⟨q, h1, us, h2, h3, h4⟩ := s.cel j k ds e
        refine ⟨k, ds, es, q, us, h1, h3, h2, g, fun ws hw => ?_⟩
        obtain ⟨a, b⟩ := updc_ok s e h1 h4 h3 hw hj
        exact ⟨b, a, p.shift a⟩
def setIx (d i : D) (ds : List D) : Option (List D) := match i with
  | .int n => (ixN ds.length n).map fun j => ds.set j d
  | _ => none
def hasC (j : Nat) : M Unit := fun r => match r[j]? with
  | some (.cel _ _) => .ok () r
  | _ => .bad
theorem hasC_run {x : Cf} {j : Nat} {α : Type} {m : M α} {Q : α → Cf → Prop} (s : RSt X.K x) (p : Post X.K X.mg T W x (mB (hasC j) (fun _ => m) x.r) Q) :
    (∃ k ds q us, x.r[j]? = some (.cel k ds) ∧ x.s[j]? = some (some (.ref q)) ∧ x.H q = some (.lst us)) ∧ Post X.K X.mg T W x (m x.r) Q := by
  unfold mB hasC at p
  cases e : x.r[j]? with
  | none => simp only [e] at p; exact p.elim
  | some en =>
    simp only [e] at p
    cases en with
    | no => exact p.elim
    | val d => exact p.elim
    | cel k ds =>
      obtain ⟨q, h1, us, h2, h3, h4⟩ := s.cel j k ds e
      exact ⟨⟨k, ds, q, us, rfl, h1, h3⟩, p⟩
def gsSub (j : Nat) (ix : M D) : D → M Unit := fun d => mB (hasC j) fun _ => mB ix fun i => mB (updc j (setIx d i)) fun _ => mP ()
theorem sg_sub (j : Nat) {x : Str} {i : Expr} {fi : M D} {p1 pos : Pos} (hi : SE X W T i fi) (hN : X.N[j]? = some x := by rfl) (hv : Vis X.env.scope x := by first | exact Or.inl rfl | exact Or.inr (Or.inl rfl) | exact Or.inr (Or.inr rfl)) (hT : j ∈ T := by decide)
    (hd : (x == ("__debug__" : Str)) = false := by decide) (hc : (x == ("__classdict__" : Str)) = false := by decide)
    (ha : ∀ v, assign (.Subscript (.Name x p1) i pos) X.env v = (do
      let ov ← holding [v] (eval (.Name x p1) X.env)
      let iv ← holding [v, ov] (eval i X.env)
      standAt pos
      holding [v, ov, iv] (setItem ov iv v)
      release [v, ov, iv] []) := by intro _; rfl) : SG X W T (.Subscript (.Name x p1) i pos) (gsSub j fi) := by
  obtain ⟨ti, pi, ei⟩ := hi.ex
  refine ⟨_, pg_sub (pe_var (i := j) hN hv hd hc) pi set_list ha, fun x v d Q s h p => ?_⟩
  obtain ⟨⟨k, ds, q, us, e, hs, hq⟩, p1⟩ := hasC_run s p
  refine ⟨_, hs, ?_⟩
  refine ei.bind s p1 fun iv y f1 s1 e1 w hw p2 => ?_
  obtain ⟨k2, ds2, es, q2, us2, h1, h2, h3, h4, h5⟩ := updc_run s1 hT p2
  rw [e1, hs] at h1
  cases h1
  cases iv <;> try (simp [setIx] at h4; done)
  rename_i n
  cases hw
  simp only [setIx] at h4
  cases g : ixN ds2.length n with
  | none => rw [g] at h4; cases h4
  | some m =>
    rw [g] at h4
    cases h4
    obtain ⟨a, b, c⟩ := h5 (us2.set m v) (RepL.set (h.mono f1.ff) m h3)
    refine ⟨q, us2, n, m, rfl, rfl, h2, by rw [h3.length]; exact g, ?_⟩
    have := c _ rfl (Fr.refl T _) a
    show Q x.s _
    rw [← e1]
    exact this
def sAsg (m : M D) (g : D → M Unit) : M Fl := mB m fun d => mB (g d) fun _ => mP .nx
theorem ss_asg {tg e : Expr} {f : M D} {g : D → M Unit} {pos : Pos} (he : SE X W T e f) (hg : SG X W T tg g) (hs : swapsWithSole [tg] e pos.line X.env = pure false := by rfl) (hw : swappedStores [tg] e X.env = pure none := by rfl)
    (h1 : (assignEach [tg] X.env).map (·.2) = [assign tg X.env] := by rfl) : SS X W T (.Assign [tg] e pos) (sAsg f g) := by
  obtain ⟨te, pe, ev⟩ := he.ex
  obtain ⟨u, pu, eu⟩ := hg.ex
  refine ⟨_, ps_asg pe pu hs hw h1, fun x Dn s p => ?_⟩
  refine ev.bind s p fun d y f1 s1 e1 v hv p1 => ?_
  show u v x.s y.H Dn.nx
  rw [← e1]
  refine eu y v d _ s1 hv ?_
  unfold mB at p1
  cases e : g d y.r with
  | exc c pl ρ => simp only [e] at p1; exact p1
  | bad => simp only [e] at p1; exact p1
  | ok z ρ =>
    simp only [e] at p1
    intro w hw fr sw
    rw [← hw] at p1
    exact p1 w rfl fr sw
/-- a, b = e1, e2 -/
def sPar2 (i j : Nat) (m : M (List D)) : M Fl := mB m fun ds => match ds with
  | [d, e] => mB (setv i d) fun _ => mB (setv j e) fun _ => mP .nx
  | _ => fun _ => .bad
theorem ss_par2 (i j : Nat) {x y : Str} {a b : Expr} {m : M (List D)} {px py pt pos : Pos} {kt k2 pt2} (hc : X.calm = true) (hN : X.N.Nodup) (ha : SD X W T [a, b] m) (hw : swappedStores [.Tuple [.Name x px, .Name y py] kt pt] (.Tuple [a, b] k2 pt2) X.env = pure (some [x, y]))
    (hi : X.N[i]? = some x := by rfl) (hj : X.N[j]? = some y := by rfl) (hij : i ≠ j := by decide) (hx : X.env.scope.names.lookup x = some .local := by rfl) (hy : X.env.scope.names.lookup y = some .local := by rfl) (hTi : i ∈ T := by decide) (hTj : j ∈ T := by decide)
    (hs : swapsWithSole [.Tuple [.Name x px, .Name y py] kt pt] (.Tuple [a, b] k2 pt2) pos.line X.env = pure false := by rfl) : SS X W T (.Assign [.Tuple [.Name x px, .Name y py] kt pt] (.Tuple [a, b] k2 pt2) pos) (sPar2 i j m) := by
  obtain ⟨ta, pa, ea⟩ := ha.ex
  refine ⟨_, ps_par hc hN hi hj hij hx hy pa hw hs, fun z Dn s p => ?_⟩
  refine ea.bind s p fun ds y f1 s1 e1 vs hv p1 => ?_
  match ds, hv with
  | [d, e], .cons (v := v) hd (.cons (v := w) he .nil) =>
    refine ⟨v, w, rfl, ?_⟩
    obtain ⟨p2, f2, s2⟩ := setv_run s1 hd hTi p1
    obtain ⟨p3, f3, s3⟩ := setv_run s2 he hTj p2
    show Dn.nx ((z.s.set i (some v)).set j (some w)) y.H
    rw [← e1]
    exact p3 _ rfl (Fr.refl T _) s3
  | [], _ => exact p1.elim
  | [_], _ => exact p1.elim
  | _ :: _ :: _ :: _, _ => exact p1.elim
def sPar3 (i j l : Nat) (m : M (List D)) : M Fl := mB m fun ds => match ds with
  | [d, e, g] => mB (setv i d) fun _ => mB (setv j e) fun _ => mB (setv l g) fun _ => mP .nx
  | _ => fun _ => .bad
theorem ss_par3 (i j l : Nat) {x y z : Str} {a b c : Expr} {m : M (List D)} {px py pz pt pos : Pos} {kt k2 pt2} (hc : X.calm = true) (hN : X.N.Nodup) (ha : SD X W T [a, b, c] m) (hw : swappedStores [.Tuple [.Name x px, .Name y py, .Name z pz] kt pt] (.Tuple [a, b, c] k2 pt2) X.env = pure (some [x, y, z]))
    (hi : X.N[i]? = some x := by rfl) (hj : X.N[j]? = some y := by rfl) (hl : X.N[l]? = some z := by rfl) (hij : i ≠ j := by decide) (hil : i ≠ l := by decide) (hjl : j ≠ l := by decide) (hx : X.env.scope.names.lookup x = some .local := by rfl) (hy : X.env.scope.names.lookup y = some .local := by rfl) (hz : X.env.scope.names.lookup z = some .local := by rfl) (hTi : i ∈ T := by decide) (hTj : j ∈ T := by decide) (hTl : l ∈ T := by decide)
    (hs : swapsWithSole [.Tuple [.Name x px, .Name y py, .Name z pz] kt pt] (.Tuple [a, b, c] k2 pt2) pos.line X.env = pure false := by rfl) : SS X W T (.Assign [.Tuple [.Name x px, .Name y py, .Name z pz] kt pt] (.Tuple [a, b, c] k2 pt2) pos) (sPar3 i j l m) := by
  obtain ⟨ta, pa, ea⟩ := ha.ex
  refine ⟨_, ps_par3 hc hN hi hj hl hij hil hjl hx hy hz pa hw hs, fun z Dn s p => ?_⟩
  refine ea.bind s p fun ds y f1 s1 e1 vs hv p1 => ?_
  match ds, hv with
  | [d, e, g], .cons (v := v) hd (.cons (v := w) he (.cons (v := u) hg .nil)) =>
    refine ⟨v, w, u, rfl, ?_⟩
    obtain ⟨p2, f2, s2⟩ := setv_run s1 hd hTi p1
    obtain ⟨p3, f3, s3⟩ := setv_run s2 he hTj p2
    obtain ⟨p4, f4, s4⟩ := setv_run s3 hg hTl p3
    show Dn.nx (((z.s.set i (some v)).set j (some w)).set l (some u)) y.H
    rw [← e1]
    exact p4 _ rfl (Fr.refl T _) s4
  | [], _ => exact p1.elim
  | [_], _ => exact p1.elim
  | [_, _], _ => exact p1.elim
  | _ :: _ :: _ :: _ :: _, _ => exact p1.elim
/-! ### found.append(e) -/
def appC (d : D) (ds : List D) : Option (List D) := if decide (ds.length < most) then some (ds ++ [d]) else none
def sApp (j : Nat) (m : M D) : M Fl := mB (hasC j) fun _ => mB m fun d => mB (updc j (appC d)) fun _ => mP .nx
theorem ss_app (j : Nat) {x : Str} {e : Expr} {f : M D} {p1 apos cpos pos : Pos} (he : SE X W T e f) (hN : X.N[j]? = some x := by rfl) (hv : Vis X.env.scope x := by first | exact Or.inl rfl | exact Or.inr (Or.inl rfl) | exact Or.inr (Or.inr rfl)) (hT : j ∈ T := by decide)
    (hd : (x == ("__debug__" : Str)) = false := by decide) (hc : (x == ("__classdict__" : Str)) = false := by decide)
    (hbase : attributeBase (.Name x p1) "append" X.env (eval (.Name x p1) X.env) = eval (.Name x p1) X.env := by rfl)
    (hfew : ((backTo cpos (starEach [e] X.env)).all (fun x => !x.1) && (backToKw cpos (keywordEach [] X.env)).all (fun x => x.1.isSome) && decide ([e].length + ([] : List Keyword).length + (if ([] : List Keyword).isEmpty then 0 else 1) < 30)) = true := by rfl)
    (hline : (apos.endLine == cpos.line) = true := by rfl) (hst : starEach [e] X.env = (false, eval e X.env) :: starEach [] X.env := by rfl) (hpl : (backTo cpos (starEach [] X.env)).any (·.1) = false := by rfl)
    (hs : swapsWith (.Call (.Attribute (.Name x p1) "append" apos) [e] [] cpos) none pos.line X.env = pure false := by rfl) : SS X W T (.Expr (.Call (.Attribute (.Name x p1) "append" apos) [e] [] cpos) pos) (sApp j f) := by
  obtain ⟨te, pe, ev⟩ := he.ex
  refine ⟨_, ps_expr (pe_bm PySem.F.plainAttrs_list PySem.F.slot_list_append PySem.F.type_list_append mt_append (pe_var (i := j) hN hv hd hc) (pa_cons pe pa_nil hst) hbase hfew hline hst hpl) hs, fun x Dn s p => ?_⟩
  obtain ⟨⟨k, ds, q, us, e0, hs, hq⟩, p1⟩ := hasC_run s p
  refine ⟨_, hs, .inl ⟨rfl, _, SqL.of hq⟩, ?_⟩
  refine ev.bind s p1 fun d y f1 s1 e1 v hv p2 => ?_
  obtain ⟨k2, ds2, es, q2, us2, h1, h2, h3, h4, h5⟩ := updc_run s1 hT p2
  rw [e1, hs] at h1
  cases h1
  unfold appC at h4
  by_cases c : decide (ds2.length < most) = true
  · rw [if_pos c] at h4
    cases h4
    obtain ⟨a, b, g⟩ := h5 (us2 ++ [v]) (h3.app (.cons hv .nil))
    refine ⟨q, us2, v, rfl, rfl, h2, by rw [h3.length]; exact Nat.lt_of_lt_of_le (of_decide_eq_true c) most_line, ?_⟩
    have := g _ rfl (Fr.refl T _) a
    show Dn.nx x.s _
    rw [← e1]
    exact this
  · rw [if_neg c] at h4
    cases h4
end
end FL
namespace FL
open PySem PySem.Spec L2
section
variable {X : Cx} {W : WX} {T : List Nat} {K : PySem.W.Frag}
/-! ### what is walked -/
/-- J gives the items ds, one after the other, as long as what is frozen at y stands -/
def WalkD (K : PySem.W.Frag) (J : It) (ds : List D) (y : Cf) : Prop :=
  ∃ (G : Hp → Prop) (Y : Nat → Hp → V → Hp → Prop), Walk J ds.length G Y ∧ (∀ z : Cf, RSt K z → Same y.F z.F → G z.H) ∧
    ∀ (i : Nat) (z : Cf) (v : V) (H' : Hp), RSt K z → Same y.F z.F → Y i z.H v H' → ∃ (z' : Cf) (d : D), Ext z z' ∧ z'.H = H' ∧ ds[i]? = some d ∧ Rep K z'.F v d
def EvI (X : Cx) (W : WX) (T : List Nat) (wi : TI) (f : M (List D)) : Prop := ∀ (x : Cf) (R : It → Hp → Prop), RSt X.K x → Post X.K X.mg T W x (f x.r) (fun ds y => y.s = x.s → ∀ J, WalkD X.K J ds y → R J y.H) → wi x.s x.H R
structure SI (X : Cx) (W : WX) (T : List Nat) (tg iter : Expr) (f : M (List D)) : Prop where
  ex : ∃ wi, PI X tg iter wi ∧ EvI X W T wi f
def rowD : D → Option (List D)
  | .tup ds => some ds
  | .lst ds => some ds
  | .scr ds => some ds
  | _ => none
def iRow (m : M D) : M (List D) := mB m fun d => mO (rowD d)
theorem walkL {a : Addr} {vs : List V} {ds : List D} {y : Cf} (h : SqL K y.F a vs) (r : RepL K y.F vs ds) : WalkD K (Itl K a) ds y := by
  refine ⟨_, _, r.length ▸ walk_list (K := K) (a := a) (xs := vs), fun z s e => s.sub.seq (e.seq h), fun i z v H' s e q => ?_⟩
  obtain ⟨rfl, q⟩ := q
  obtain ⟨d, h1, h2⟩ := r.get' q
  exact ⟨z, d, Ext.refl s, rfl, h1, h2.mono e⟩
theorem walkT {a : Addr} {vs : List V} {ds : List D} {y : Cf} (h : SqT K y.F a vs) (r : RepL K y.F vs ds) : WalkD K (Itt K a) ds y := by
  refine ⟨_, _, r.length ▸ walk_tup (K := K) (a := a) (xs := vs), fun z s e => sameT s.sub (sameT e h), fun i z v H' s e q => ?_⟩
  obtain ⟨rfl, q⟩ := q
  obtain ⟨d, h1, h2⟩ := r.get' q
  exact ⟨z, d, Ext.refl s, rfl, h1, h2.mono e⟩
theorem row_cases {F : Hp} {v : V} {d : D} {ds : List D} (h : Rep K F v d) (q : rowD d = some ds) : ∃ a vs, v = .ref a ∧ RepL K F vs ds ∧ (SqL K F a vs ∨ SqT K F a vs) := by
  cases h <;> try (simp [rowD] at q; done)
  · rename_i h1 h2; cases q; exact ⟨_, _, rfl, h2, .inr h1⟩
  · rename_i h1 h2; cases q; exact ⟨_, _, rfl, h2, .inl (SqL.of h1)⟩
  · rename_i h1 h2; cases q; exact ⟨_, _, rfl, h2, .inl h1⟩
theorem si_row {tg e : Expr} {f : M D} (h : SE X W T e f) : SI X W T tg e (iRow f) := by
  obtain ⟨te, pe, ev⟩ := h.ex
  refine ⟨_, pi_seq pe, fun x R s p => ?_⟩
  refine ev.bind s p fun d y f1 s1 e1 v hv p1 => ?_
  cases q : rowD d with
  | none => rw [q] at p1; exact p1.elim
  | some ds =>
    rw [q] at p1
    have p2 := p1 y rfl (Fr.refl T y) s1 e1
    obtain ⟨a, vs, rfl, r, h | h⟩ := row_cases hv q
    · exact ⟨a, rfl, .inl ⟨⟨vs, s1.sub.seq h⟩, p2 _ (walkL h r)⟩⟩
    · exact ⟨a, rfl, .inr ⟨⟨vs, sameT s1.sub h⟩, p2 _ (walkT h r)⟩⟩
def rgD (lo : Int) (n : Nat) : List D := (List.range n).map fun (i : Nat) => D.int (lo + (i : Int))
theorem rgD_len (lo : Int) (n : Nat) : (rgD lo n).length = n := by unfold rgD; rw [List.length_map, List.length_range]
theorem walkR {lo : Int} {n : Nat} {y : Cf} : WalkD K (Itr lo n) (rgD lo n) y := by
  have w : Walk (Itr lo n) (rgD lo n).length (fun _ => True) (fun i H v H' => H' = H ∧ v = V.int (lo + (i : Int)) ∧ i < n) := by
    rw [rgD_len]
    exact (walk_range (lo := lo) (n := n)).mono (fun _ _ => trivial) fun i H v H' hi _ q => ⟨q.1, q.2, hi⟩
  refine ⟨_, _, w, fun _ _ _ => trivial, fun i z v H' s e q => ?_⟩
  obtain ⟨rfl, rfl, q⟩ := q
  exact ⟨z, .int (lo + (i : Int)), Ext.refl s, rfl, by unfold rgD; rw [List.getElem?_map, List.getElem?_range q]; rfl, .int _⟩
def rgOk (i : Int) : Bool := decide (-1000000 ≤ i ∧ i ≤ 1000000)
theorem rgOk_62 {i : Int} (h : rgOk i = true) : -(2 ^ 62) ≤ i ∧ i < 2 ^ 62 := by
  obtain ⟨h1, h2⟩ := of_decide_eq_true h
  omega
def range1 : List D → Option (List D)
  | [.int j] => if rgOk j then some (rgD 0 j.toNat) else none
  | _ => none
def range2 : List D → Option (List D)
  | [.int i, .int j] => if rgOk i && rgOk j then some (rgD i (j - i).toNat) else none
  | _ => none
def iOf (o : List D → Option (List D)) (m : M (List D)) : M (List D) := mB m fun ds => mO (o ds)
theorem si_range1 {tg a : Expr} {f : M (List D)} {p pos : Pos} (hm : X.mg "range" = none) (ha : SD X W T [a] f) (hg : Gl X "range" := by rfl) (hs : starEach [a] X.env = [(false, eval a X.env)] := by rfl) : SI X W T tg (.Call (.Name "range" p) [a] [] pos) (iOf range1 f) := by
  obtain ⟨ta, pa, ea⟩ := ha.ex
  refine ⟨_, pi_range1 hg hm pa hs, fun x R s p => ?_⟩
  refine ea.bind s p fun ds y f1 s1 e1 vs hv p1 => ?_
  cases q : range1 ds with
  | none => rw [q] at p1; exact p1.elim
  | some es =>
    rw [q] at p1
    have p2 := p1 y rfl (Fr.refl T y) s1 e1
    match ds, hv with
    | [d], .cons hd .nil =>
      cases d <;> try (simp [range1] at q; done)
      rename_i j
      cases hd
      simp only [range1] at q
      split at q
      · rename_i c
        cases q
        exact ⟨j, rfl, (rgOk_62 c).1, (rgOk_62 c).2, p2 _ walkR⟩
      · cases q
    | [], _ => cases q
    | _ :: _ :: _, _ => simp [range1] at q
theorem si_range2 {tg a b : Expr} {f : M (List D)} {p pos : Pos} (hm : X.mg "range" = none) (ha : SD X W T [a, b] f) (hg : Gl X "range" := by rfl) (hs : starEach [a, b] X.env = [(false, eval a X.env), (false, eval b X.env)] := by rfl) (hs2 : starEach [b] X.env = [(false, eval b X.env)] := by rfl) :
    SI X W T tg (.Call (.Name "range" p) [a, b] [] pos) (iOf range2 f) := by
  obtain ⟨ta, pa, ea⟩ := ha.ex
  refine ⟨_, pi_range2 hg hm pa hs hs2, fun x R s p => ?_⟩
  refine ea.bind s p fun ds y f1 s1 e1 vs hv p1 => ?_
  cases q : range2 ds with
  | none => rw [q] at p1; exact p1.elim
  | some es =>
    rw [q] at p1
    have p2 := p1 y rfl (Fr.refl T y) s1 e1
    match ds, hv with
    | [d, e], .cons hd (.cons he .nil) =>
      cases d <;> try (cases e <;> simp [range2] at q <;> done)
      rename_i i
      cases e <;> try (simp [range2] at q; done)
      rename_i j
      cases hd
      cases he
      simp only [range2] at q
      split at q
      · rename_i c
        cases q
        obtain ⟨c1, c2⟩ := Bool.and_eq_true_iff.mp c
        exact ⟨i, j, rfl, ⟨(rgOk_62 c1).1, (rgOk_62 c1).2, (rgOk_62 c2).1, (rgOk_62 c2).2⟩, p2 _ walkR⟩
      · cases q
    | [], _ => cases q
    | [_], _ => simp [range2] at q
    | _ :: _ :: _ :: _, _ => simp [range2] at q
/-- the items with their places -/
def enumD (ds : List D) : List D := (List.range ds.length).map fun i => .tup [.int (i : Nat), ds.getD i .non]
theorem enumD_get {ds : List D} {i : Nat} {d : D} (h : ds[i]? = some d) : (enumD ds)[i]? = some (.tup [.int (i : Nat), d]) := by
  obtain ⟨hl, _⟩ := List.getElem?_eq_some_iff.mp h
  unfold enumD
  rw [List.getElem?_map, List.getElem?_range hl]
  show some (D.tup [.int (i : Nat), ds.getD i .non]) = _
  rw [List.getD_eq_getElem?_getD, h]
  rfl
theorem enumD_len (ds : List D) : (enumD ds).length = ds.length := by unfold enumD; rw [List.length_map, List.length_range]
theorem pair_step {z : Cf} {v : V} {H' : Hp} {fx fy : Option V} {d e : D} (s : RSt K z) (q : ∃ t x y, v = .ref t ∧ z.H t = none ∧ H' = upd z.H t (.tup [x, y]) ∧ fx = some x ∧ fy = some y)
    (hx : ∀ x, fx = some x → Rep K z.F x d) (hy : ∀ y, fy = some y → Rep K z.F y e) : ∃ z' : Cf, Ext z z' ∧ z'.H = H' ∧ Rep K z'.F v (.tup [d, e]) := by
  obtain ⟨t, x, y, rfl, h1, rfl, h2, h3⟩ := q
  obtain ⟨a, b⟩ := ext_tup s h1 (.cons (hx x h2) (.cons (hy y h3) .nil))
  exact ⟨_, a, rfl, b⟩
theorem walkE {a : Addr} {vs : List V} {ds : List D} {y : Cf} {J : It} {G : Hp → Prop} (w : Walk J vs.length G (YPair (fun i => some (.int (i : Nat))) (fun i => vs[i]?))) (r : RepL K y.F vs ds) (hG : ∀ z : Cf, RSt K z → Same y.F z.F → G z.H) : WalkD K J (enumD ds) y := by
  refine ⟨G, _, by rw [enumD_len, ← r.length]; exact w, hG, fun i z v H' s e q => ?_⟩
  have q' := q
  obtain ⟨_, _, _, _, _, _, _, h5⟩ := q'
  obtain ⟨d, h6, h7⟩ := r.get' h5
  obtain ⟨z', a1, a2, a3⟩ := pair_step (d := .int (i : Nat)) (e := d) s q (fun x hx => by cases hx; exact .int _) (fun y' hy => by
    have h8 : vs[i]? = some y' := hy
    have h9 : vs[i]? = some _ := h5
    rw [h9] at h8
    cases h8
    exact h7.mono e)
  exact ⟨z', _, a1, a2, enumD_get h6, a3⟩
def enum1 : List D → Option (List D)
  | [d] => (rowD d).map enumD
  | _ => none
theorem si_enum {e : Expr} {f : M (List D)} {p pos tpos : Pos} {elts : List Expr} {kk : Nat} (hm : X.mg "enumerate" = none) (ha : SD X W T [e] f) (hg : Gl X "enumerate" := by rfl) (hs : starEach [e] X.env = [(false, eval e X.env)] := by rfl) :
    SI X W T (.Tuple elts kk tpos) (.Call (.Name "enumerate" p) [e] [] pos) (iOf enum1 f) := by
  obtain ⟨ta, pa, ea⟩ := ha.ex
  refine ⟨_, pi_enumA hg hm pa hs, fun x R s p => ?_⟩
  refine ea.bind s p fun ds y f1 s1 e1 vs hv p1 => ?_
  cases q : enum1 ds with
  | none => rw [q] at p1; exact p1.elim
  | some es =>
    rw [q] at p1
    have p2 := p1 y rfl (Fr.refl T y) s1 e1
    match ds, hv with
    | [d], .cons hd .nil =>
      have q : (rowD d).map enumD = some es := q
      cases g : rowD d with
      | none => rw [g] at q; cases q
      | some gs =>
        rw [g] at q
        cases q
        obtain ⟨a, us, rfl, r, h | h⟩ := row_cases hd g
        · exact ⟨a, us, rfl, .inl ⟨s1.sub.seq h, p2 _ (walkE (a := a) walk_enum r fun z sz ez => sz.sub.seq (ez.seq h))⟩⟩
        · exact ⟨a, us, rfl, .inr ⟨sameT s1.sub h, p2 _ (walkE (a := a) walk_enT r fun z sz ez => sameT sz.sub (sameT ez h))⟩⟩
    | [], _ => cases q
    | _ :: _ :: _, _ => cases q
/-! ### for -/
def forD (g : D → M Unit) (b : M Fl) : List D → M Fl
  | [] => mP .nx
  | d :: ds => mB (g d) fun _ => mB b fun fl => match fl with
    | .nx => forD g b ds
    | .co => forD g b ds
    | .br => mP .nx
    | .rt d => mP (.rt d)
    | .rtL ds => mP (.rtL ds)
def sFor (it : M (List D)) (g : D → M Unit) (b : M Fl) : M Fl := mB it fun ds => forD g b ds
theorem drop_cons {α : Type} {l : List α} {i : Nat} {a : α} (h : l[i]? = some a) : l.drop i = a :: l.drop (i + 1) := by
  obtain ⟨hl, e⟩ := List.getElem?_eq_some_iff.mp h
  rw [List.drop_eq_getElem_cons hl, e]
theorem ss_for {tg iter : Expr} {body : List Stmt} {fi : M (List D)} {g : D → M Unit} {b : M Fl} {pos : Pos} (hc : X.calm = true) (hp : PassesOwn (model X.prog X.w) X.A X.env X.xe) (hi : SI X W T tg iter fi) (hg : SG X W T tg g) (hb : SSs X W T body b)
    (hs : ∀ x, foldedSetIterable iter X.env x = pure x := by intro _; rfl) : SS X W T (.For tg iter body [] pos) (sFor fi g b) := by
  obtain ⟨wi, pi, ei⟩ := hi.ex
  obtain ⟨u, pu, eu⟩ := hg.ex
  obtain ⟨t, pt, et⟩ := hb.ex
  refine ⟨_, ps_for hp hc pi pu pt hs, fun x Dn s p => ?_⟩
  refine ei x _ s ?_
  unfold sFor mB at p
  cases e0 : fi x.r with
  | exc c pl ρ => simp only [e0] at p; exact p
  | bad => simp only [e0] at p; exact p
  | ok ds ρ =>
    simp only [e0] at p
    intro y hy f1 s1 e1 J wk
    rw [← hy] at p
    obtain ⟨G, Y, w, hG, hY⟩ := wk
    have p1 : Post X.K X.mg T W y (forD g b ds y.r) (SQ X.K y Dn) := (p.shift f1).mono fun a z _ _ q => SQ.shift f1 q
    rw [← e1]
    refine for_it w (fun i σ H => ∃ z : Cf, z.s = σ ∧ z.H = H ∧ Fr T y z ∧ RSt X.K z ∧ Post X.K X.mg T W z (forD g b (ds.drop i) z.r) (SQ X.K z Dn)) ⟨y, rfl, rfl, Fr.refl T y, s1, by rw [List.drop_zero]; exact p1⟩ ?_ ?_ ?_
    · rintro i σ H hi ⟨z, rfl, rfl, fz, sz, pz⟩
      exact hG z sz fz.ff
    · rintro i v σ H H' hi ⟨z, rfl, rfl, fz, sz, pz⟩ hy2
      obtain ⟨z', d, ex, rfl, hd, hv⟩ := hY i z v H' sz fz.ff hy2
      have s3 := ex.rst sz
      rw [drop_cons hd, ← ex.r] at pz
      have p3 : Post X.K X.mg T W z' (forD g b (d :: ds.drop (i + 1)) z'.r) (SQ X.K z' Dn) := (pz.shift (ex.fr T)).mono fun a q _ _ h => SQ.shift (ex.fr T) h
      have f3 : Fr T y z' := fz.trans (ex.fr T)
      rw [← ex.s]
      refine eu z' v d _ s3 hv ?_
      unfold forD mB at p3
      cases e2 : g d z'.r with
      | exc c pl ρ => simp only [e2] at p3; exact p3
      | bad => simp only [e2] at p3; exact p3
      | ok _ ρ2 =>
        simp only [e2] at p3
        intro q hq fq sq
        rw [← hq] at p3
        have p4 := (p3.shift fq).mono (Q' := SQ X.K q Dn) fun a q2 _ _ h => SQ.shift fq h
        refine et q _ sq ?_
        cases e3 : b q.r with
        | exc c pl ρ => simp only [e3] at p4; exact p4
        | bad => simp only [e3] at p4; exact p4
        | ok fl ρ3 =>
          simp only [e3] at p4
          intro o ho fo so
          rw [← ho] at p4
          have f5 : Fr T y o := (f3.trans fq).trans fo
          cases fl with
          | nx => exact ⟨o, rfl, rfl, f5, so, (p4.shift fo).mono fun a q2 _ _ h => SQ.shift fo h⟩
          | co => exact ⟨o, rfl, rfl, f5, so, (p4.shift fo).mono fun a q2 _ _ h => SQ.shift fo h⟩
          | br => exact p4 o rfl fo so
          | rt d => exact p4 o rfl fo so
          | rtL ds => exact p4 o rfl fo so
    · rintro σ H ⟨z, rfl, rfl, fz, sz, pz⟩
      rw [List.drop_length] at pz
      exact pz z rfl (Fr.refl T z) sz
/-! ### while -/
def whileD (c : M Bool) (b : M Fl) : Nat → M Fl
  | 0 => fun _ => .bad
  | n + 1 => mB c fun k => if k then mB b fun fl => match fl with
    | .nx => whileD c b n
    | .co => whileD c b n
    | .br => mP .nx
    | .rt d => mP (.rt d)
    | .rtL ds => mP (.rtL ds)
    else mP .nx
theorem ss_while (n : Nat) {c : Expr} {body : List Stmt} {fc : M Bool} {b : M Fl} {pos : Pos} (hp : PassesOwn (model X.prog X.w) X.A X.env X.xe) (hc : ST X W T c fc) (hb : SSs X W T body b) : SS X W T (.While c body [] pos) (whileD fc b n) := by
  obtain ⟨tc, pc, ec⟩ := hc.ex
  obtain ⟨t, pt, et⟩ := hb.ex
  refine ⟨_, ps_while hp pc pt, fun x Dn s p => ?_⟩
  refine ⟨fun m σ H => ∃ z : Cf, z.s = σ ∧ z.H = H ∧ RSt X.K z ∧ Post X.K X.mg T W z (whileD fc b m z.r) (SQ X.K z Dn), ⟨n, x, rfl, rfl, s, p⟩, ?_⟩
  rintro m σ H ⟨z, rfl, rfl, sz, pz⟩
  cases m with
  | zero => exact pz.elim
  | succ m =>
    unfold whileD at pz
    refine ec.bind sz pz fun k y f1 s1 e1 p1 => ?_
    have p2 := p1.mono (Q' := SQ X.K y Dn) fun a q2 _ _ h => SQ.shift f1 h
    cases k with
    | false =>
      show Dn.nx z.s y.H
      rw [← e1]
      exact p2 y rfl (Fr.refl T y) s1
    | true =>
      simp only [if_true] at p2 ⊢
      refine ⟨fun σ' H' => ∃ z : Cf, z.s = σ' ∧ z.H = H' ∧ RSt X.K z ∧ Post X.K X.mg T W z (whileD fc b m z.r) (SQ X.K z Dn), fun σ' H' h => ⟨m, Nat.lt_succ_self m, h⟩, ?_⟩
      rw [← e1]
      refine et y _ s1 ?_
      unfold mB at p2
      cases e3 : b y.r with
      | exc c pl ρ => simp only [e3] at p2; exact p2
      | bad => simp only [e3] at p2; exact p2
      | ok fl ρ3 =>
        simp only [e3] at p2
        intro o ho fo so
        rw [← ho] at p2
        cases fl with
        | nx => exact ⟨o, rfl, rfl, so, (p2.shift fo).mono fun a q2 _ _ h => SQ.shift fo h⟩
        | co => exact ⟨o, rfl, rfl, so, (p2.shift fo).mono fun a q2 _ _ h => SQ.shift fo h⟩
        | br => exact p2 o rfl fo so
        | rt d => exact p2 o rfl fo so
        | rtL ds => exact p2 o rfl fo so
end
end FL
namespace FL
open PySem PySem.Spec L2
section
variable {K : PySem.W.Frag}
/-! ### slots wiped and put back -/
def wipeE (r : List Ent) : List Nat → List Ent
  | [] => r
  | v :: vs => (wipeE r vs).set v .no
theorem wipeE_length (r : List Ent) : ∀ vs : List Nat, (wipeE r vs).length = r.length
  | [] => rfl
  | v :: vs => by unfold wipeE; rw [List.length_set, wipeE_length r vs]
theorem wipeE_ne {r : List Ent} {i : Nat} : ∀ {vs : List Nat}, i ∉ vs → (wipeE r vs)[i]? = r[i]?
  | [], _ => rfl
  | v :: vs, h => by
    unfold wipeE
    have h1 : v ≠ i := fun e => h (by rw [e]; exact List.mem_cons_self)
    rw [List.getElem?_set_ne h1]
    exact wipeE_ne fun e => h (List.mem_cons_of_mem _ e)
theorem wipe_ne {σ : L2.St} {i : Nat} : ∀ {vs : List Nat}, i ∉ vs → (wipe σ vs)[i]? = σ[i]?
  | [], _ => rfl
  | v :: vs, h => by
    unfold wipe
    have h1 : v ≠ i := fun e => h (by rw [e]; exact List.mem_cons_self)
    rw [List.getElem?_set_ne h1]
    exact wipe_ne fun e => h (List.mem_cons_of_mem _ e)
theorem wipeE_in {r : List Ent} {i : Nat} {e : Ent} : ∀ {vs : List Nat}, i ∈ vs → (wipeE r vs)[i]? = some e → e = .no
  | v :: vs, h, q => by
    unfold wipeE at q
    rcases get_set q with ⟨_, e1, _⟩ | ⟨e1, g⟩
    · exact e1.symm
    · rcases List.mem_cons.mp h with z | z
      · exact (e1 z.symm).elim
      · exact wipeE_in z g
theorem wipe_in {σ : L2.St} {i : Nat} {v : Option V} : ∀ {vs : List Nat}, i ∈ vs → (wipe σ vs)[i]? = some v → v = none
  | u :: vs, h, q => by
    unfold wipe at q
    rcases get_set q with ⟨_, e1, _⟩ | ⟨e1, g⟩
    · exact e1.symm
    · rcases List.mem_cons.mp h with z | z
      · exact (e1 z.symm).elim
      · exact wipe_in z g
theorem wipe_eq {σ σ' : L2.St} {vs : List Nat} (hl : σ'.length = σ.length) (h : ∀ i, i ∉ vs → σ'[i]? = σ[i]?) : wipe σ' vs = wipe σ vs := by
  apply List.ext_getElem?
  intro i
  by_cases hi : i ∈ vs
  · have l1 : (wipe σ' vs).length = (wipe σ vs).length := by rw [wipe_length, wipe_length, hl]
    by_cases c : i < (wipe σ' vs).length
    · have c2 : i < (wipe σ vs).length := by rw [← l1]; exact c
      have e1 := List.getElem?_eq_getElem c
      have e2 := List.getElem?_eq_getElem c2
      rw [e1, e2, wipe_in hi e1, wipe_in hi e2]
    · rw [List.getElem?_eq_none (by omega), List.getElem?_eq_none (by omega)]
  · rw [wipe_ne hi, wipe_ne hi]; exact h i hi
theorem wipe_wipe (σ : L2.St) (vs : List Nat) : wipe (wipe σ vs) vs = wipe σ vs := wipe_eq (wipe_length σ vs) fun i hi => wipe_ne hi
/-- x without the slots vs -/
def wiped (x : Cf) (vs : List Nat) : Cf := ⟨x.F, x.H, wipe x.s vs, wipeE x.r vs⟩
theorem wiped_cel {x : Cf} {vs : List Nat} {i : Nat} {k : CK} {p : Addr} (h : CelAt (wiped x vs) i k p) : i ∉ vs ∧ CelAt x i k p := by
  obtain ⟨⟨ds, h1⟩, h2⟩ := h
  have h1' : (wipeE x.r vs)[i]? = some (.cel k ds) := h1
  have h2' : (wipe x.s vs)[i]? = some (some (.ref p)) := h2
  by_cases hi : i ∈ vs
  · cases wipeE_in hi h1'
  · rw [wipeE_ne hi] at h1'
    rw [wipe_ne hi] at h2'
    exact ⟨hi, ⟨ds, h1'⟩, h2'⟩
theorem wiped_ok {x : Cf} {T vs : List Nat} (s : RSt K x) (hT : ∀ i ∈ vs, i ∈ T) : Fr T x (wiped x vs) ∧ RSt K (wiped x vs) := by
  constructor
  · refine ⟨wipeE_length _ _, Same.refl _, fun _ h => h, fun a o e => .inl ⟨o, e⟩, fun a o e _ => e, fun i k p c => .inr (wiped_cel c).2, fun i hi => ?_⟩
    have hv : i ∉ vs := fun z => hi (hT i z)
    exact ⟨wipeE_ne hv, wipe_ne hv⟩
  · refine ⟨s.sub, by show (wipe x.s vs).length = (wipeE x.r vs).length; rw [wipe_length, wipeE_length]; exact s.len, fun i d h => ?_, fun i k es h => ?_, fun i j k l p c c' => s.dis i j k l p (wiped_cel c).2 (wiped_cel c').2⟩
    · have h' : (wipeE x.r vs)[i]? = some (.val d) := h
      by_cases hi : i ∈ vs
      · cases wipeE_in hi h'
      · rw [wipeE_ne hi] at h'
        obtain ⟨v, h1, h2⟩ := s.val i d h'
        exact ⟨v, by show (wipe x.s vs)[i]? = _; rw [wipe_ne hi]; exact h1, h2⟩
    · have h' : (wipeE x.r vs)[i]? = some (.cel k es) := h
      by_cases hi : i ∈ vs
      · cases wipeE_in hi h'
      · rw [wipeE_ne hi] at h'
        obtain ⟨p, h1, h2⟩ := s.cel i k es h'
        exact ⟨p, by show (wipe x.s vs)[i]? = _; rw [wipe_ne hi]; exact h1, h2⟩
def noCel (vs : List Nat) (r : List Ent) : Bool := vs.all fun i => match r[i]? with
  | some (.cel _ _) => false
  | _ => true
/-- the slots vs as they were in r0 -/
def putBack (r0 r : List Ent) : List Nat → List Ent
  | [] => r
  | v :: vs => match r0[v]? with
    | some e => (putBack r0 r vs).set v e
    | none => putBack r0 r vs
theorem putBack_length (r0 r : List Ent) : ∀ vs, (putBack r0 r vs).length = r.length
  | [] => rfl
  | v :: vs => by
    unfold putBack
    split
    · rw [List.length_set, putBack_length r0 r vs]
    · exact putBack_length r0 r vs
theorem putBack_ne {r0 r : List Ent} {i : Nat} : ∀ {vs : List Nat}, i ∉ vs → (putBack r0 r vs)[i]? = r[i]?
  | [], _ => rfl
  | v :: vs, h => by
    have h1 : v ≠ i := fun e => h (by rw [e]; exact List.mem_cons_self)
    have h2 := putBack_ne (r0 := r0) (r := r) fun e => h (List.mem_cons_of_mem v e)
    unfold putBack
    split
    · rw [List.getElem?_set_ne h1]; exact h2
    · exact h2
theorem putBack_in {r0 r : List Ent} {i : Nat} (hl : r.length = r0.length) : ∀ {vs : List Nat}, i ∈ vs → (putBack r0 r vs)[i]? = r0[i]?
  | v :: vs, h => by
    unfold putBack
    by_cases e : v = i
    · subst e
      split
      · rename_i en q
        rw [q]
        have : v < (putBack r0 r vs).length := by
          rw [putBack_length, hl]
          exact (List.getElem?_eq_some_iff.mp q).1
        exact List.getElem?_set_self this
      · rename_i q
        rw [q]
        refine List.getElem?_eq_none ?_
        rw [putBack_length, hl]
        exact List.getElem?_eq_none_iff.mp q
    · have hi : i ∈ vs := by
        rcases List.mem_cons.mp h with z | z
        · exact (e z.symm).elim
        · exact z
      have ih := putBack_in (r0 := r0) (r := r) hl hi
      split
      · rw [List.getElem?_set_ne e]; exact ih
      · exact ih
/-- an exception is not let out -/
def noX {α : Type} (m : M α) : M α := fun r => match m r with
  | .exc _ _ _ => .bad
  | o => o
theorem noX_post {α : Type} {mg : Str → Option Value} {T : List Nat} {W W' : WX} {x : Cf} {m : M α} {r : List Ent} {Q : α → Cf → Prop} (p : Post K mg T W x (noX m r) Q) : Post K mg T W' x (m r) Q := by
  unfold noX at p
  cases e : m r with
  | ok a ρ => simp only [e] at p; exact p
  | exc c pl ρ => simp only [e] at p; exact p.elim
  | bad => simp only [e] at p; exact p.elim
def compD (vs : List Nat) (g : D → M Unit) (t : M Bool) (e : M D) : List D → List D → M (List D)
  | [], acc => mP acc
  | d :: ds, acc => mB (noX (g d)) fun _ => mB (noX t) fun k => if k then mB (noX e) fun y r => if decide (acc.length < most) then compD vs g t e ds (acc ++ [y]) (wipeE r vs) else .bad
    else fun r => compD vs g t e ds acc (wipeE r vs)
/-- [e for g in it if t], vs the slots of the names of its own -/
def lComp (vs : List Nat) (it : M (List D)) (g : D → M Unit) (t : M Bool) (e : M D) : M (List D) := mB it fun ds r => if noCel vs r then (match compD vs g t e ds [] (wipeE r vs) with
  | .ok acc r2 => .ok acc (putBack r r2 vs)
  | _ => .bad) else .bad
end
section
variable {X : Cx} {W : WX} {T : List Nat} {K : PySem.W.Frag}
abbrev W0 : WX := fun _ _ _ _ => False
theorem noX_exc {α : Type} {m : M α} {r r' : List Ent} {c : Str} {pl : Option (Str × D)} : noX m r ≠ .exc c pl r' := by
  unfold noX
  intro h
  cases e : m r with
  | ok a ρ => simp only [e] at h; cases h
  | exc c pl ρ => simp only [e] at h; cases h
  | bad => simp only [e] at h; cases h
/-- a list of nobody's stands -/
theorem stays {x y : Cf} {q : Addr} {us : List V} (f : Fr T x y) (h1 : x.H q = some (.lst us)) (h2 : x.F q = none) (h3 : ∀ i k, ¬ CelAt x i k q) : y.H q = some (.lst us) ∧ y.F q = none ∧ ∀ i k, ¬ CelAt y i k q := by
  refine ⟨f.hp q _ h1 fun i _ k c => h3 i k c, ?_, fun i k c => ?_⟩
  · cases e : y.F q with
    | none => rfl
    | some o =>
      rcases f.nw q o e with ⟨u, g⟩ | g | ⟨i, g⟩
      · rw [h2] at g; cases g
      · rw [h1] at g; cases g
      · exact (h3 i _ g).elim
  · rcases f.cc i k q c with ⟨_, g⟩ | g
    · rw [h1] at g; cases g
    · exact h3 i k g
theorem bump {b a : Cf} {q : Addr} {o : HO} (f : Fr T b a) (s : RSt K a) (hb : b.H q = none) (h2 : a.F q = none) (h3 : ∀ i k, ¬ CelAt a i k q) : Fr T b ⟨a.F, upd a.H q o, a.s, a.r⟩ ∧ RSt K ⟨a.F, upd a.H q o, a.s, a.r⟩ := by
  constructor
  · refine ⟨f.ln, f.ff, fun p h => ?_, f.nw, fun p u h n => ?_, f.cc, f.un⟩
    · by_cases z : p = q
      · rw [z]; exact hb
      · exact f.dm p (by rw [← h]; exact (upd_ne z).symm)
    · have z : p ≠ q := by rintro rfl; rw [hb] at h; cases h
      show upd a.H q o p = some u
      rw [upd_ne z]; exact f.hp p u h n
  · refine ⟨fun p u h => ?_, s.len, s.val, fun i k es h => ?_, s.dis⟩
    · have z : p ≠ q := by rintro rfl; rw [h2] at h; cases h
      show upd a.H q o p = some u
      rw [upd_ne z]; exact s.sub p u h
    · obtain ⟨p, g1, us, g2, g3, g4⟩ := s.cel i k es h
      have z : p ≠ q := by rintro rfl; exact h3 i k ⟨⟨es, h⟩, g1⟩
      exact ⟨p, g1, us, g2, by show upd a.H q o p = _; rw [upd_ne z]; exact g3, g4⟩
theorem ev_comp {wi : TI} {g : TG} {tt : TT} {te : TE} {vs : List Nat} {fi : M (List D)} {fg : D → M Unit} {ft : M Bool} {fe : M D} (hT : ∀ i ∈ vs, i ∈ T)
    (ei : EvI X W T wi fi) (eg : EvG X W0 vs g fg) (et : EvT X W0 T tt ft) (ee : EvE X W0 T te fe) : EvL X W T (tLc wi g tt te vs) (lComp vs fi fg ft fe) := by
  intro x Q s p
  refine ei x _ s ?_
  unfold lComp mB at p
  cases e0 : fi x.r with
  | exc c pl ρ => simp only [e0] at p; exact p
  | bad => simp only [e0] at p; exact p
  | ok ds ρ =>
    simp only [e0] at p
    intro y hy f1 s1 e1 J wk
    rw [← hy] at p
    by_cases hno : noCel vs y.r = true
    case neg => rw [if_neg hno] at p; exact p.elim
    rw [if_pos hno] at p
    have p0 := p.shift f1
    clear p
    obtain ⟨G, Y, w, hG, hY⟩ := wk
    intro q hq
    obtain ⟨fw, sw⟩ := wiped_ok (T := T) s1 hT
    have hbq : (wiped y vs).H q = none := hq
    have nq : ∀ i k, ¬ CelAt (wiped y vs) i k q := fun i k c => not_cel s1 hq i k (wiped_cel c).2
    -- the end
    have key : ∀ (acc : List D) (r2 : List Ent) (z : Cf), compD vs fg ft fe ds [] (wipeE y.r vs) = .ok acc r2 → z.r = r2 → z.s = wipe y.s vs → Fr T (wiped y vs) z → RSt X.K z → (∀ i k, ¬ CelAt z i k q) →
        ∀ us, z.H q = some (.lst us) → z.F q = none → RepL X.K z.F us acc → Q (.ref q) z.H := by
      intro acc r2 z hc hz2 hz1 fz sz h4 us h1 h2 h3
      have p0 := p0
      rw [hc] at p0
      have f2 := fw.trans fz
      have lr : z.r.length = y.r.length := f2.ln
      have noc : ∀ i ∈ vs, ∀ k ds, y.r[i]? ≠ some (.cel k ds) := fun i hi k ds z => by
        have := List.all_eq_true.mp hno i hi
        rw [z] at this; cases this
      have celz : ∀ i k a, CelAt ⟨z.F, z.H, y.s, putBack y.r z.r vs⟩ i k a → CelAt z i k a := fun i k a ⟨⟨gs, g1⟩, g2⟩ => by
        have g1' : (putBack y.r z.r vs)[i]? = some (.cel k gs) := g1
        by_cases hi : i ∈ vs
        · rw [putBack_in lr hi] at g1'
          exact (noc i hi k gs g1').elim
        · rw [putBack_ne hi] at g1'
          refine ⟨⟨gs, g1'⟩, ?_⟩
          rw [hz1, wipe_ne hi]; exact g2
      refine p0 ⟨z.F, z.H, y.s, putBack y.r z.r vs⟩ (by rw [hz2]) ?_ ?_ e1 q us ⟨h1, h2, h3⟩ (f1.dm q hq) (fun i k c => h4 i k (celz i k q c))
      · refine ⟨(putBack_length _ _ _).trans lr, f2.ff, f2.dm, f2.nw, f2.hp, fun i k a c => f2.cc i k a (celz i k a c), fun i hi => ?_⟩
        have hv : i ∉ vs := fun z => hi (hT i z)
        refine ⟨?_, rfl⟩
        show (putBack y.r z.r vs)[i]? = y.r[i]?
        rw [putBack_ne hv]
        exact (f2.un i hi).1
      · refine ⟨sz.sub, by show y.s.length = (putBack y.r z.r vs).length; rw [putBack_length, lr]; exact s1.len, fun i d h => ?_, fun i k es h => ?_, fun i j k l a c c' => sz.dis i j k l a (celz _ _ _ c) (celz _ _ _ c')⟩
        · have h' : (putBack y.r z.r vs)[i]? = some (.val d) := h
          by_cases hi : i ∈ vs
          · rw [putBack_in lr hi] at h'
            obtain ⟨v, g1, g2⟩ := s1.val i d h'
            exact ⟨v, g1, g2.mono f2.ff⟩
          · rw [putBack_ne hi] at h'
            obtain ⟨v, g1, g2⟩ := sz.val i d h'
            rw [hz1, wipe_ne hi] at g1
            exact ⟨v, g1, g2⟩
        · have h' : (putBack y.r z.r vs)[i]? = some (.cel k es) := h
          by_cases hi : i ∈ vs
          · rw [putBack_in lr hi] at h'
            exact (noc i hi k es h').elim
          · rw [putBack_ne hi] at h'
            obtain ⟨a, g1, g2⟩ := sz.cel i k es h'
            rw [hz1, wipe_ne hi] at g1
            exact ⟨a, g1, g2⟩
    rw [← e1]
    obtain ⟨RR, hRR⟩ : ∃ RR, compD vs fg ft fe ds [] (wipeE y.r vs) = RR := ⟨_, rfl⟩
    rw [hRR] at p0
    simp only [hRR] at key
    let Pv : Nat → Hp → Prop := fun i H => ∃ (z : Cf) (acc : List D) (us : List V), z.s = wipe y.s vs ∧ z.H = H ∧ Fr T (wiped y vs) z ∧ RSt X.K z ∧ z.H q = some (.lst us) ∧ z.F q = none ∧ RepL X.K z.F us acc ∧
      (∀ i k, ¬ CelAt z i k q) ∧ compD vs fg ft fe (ds.drop i) acc z.r = RR
    have good : RR ≠ .bad := by intro z; rw [z] at p0; exact p0
    obtain ⟨b1, b2⟩ := bump (o := .lst []) (Fr.refl T (wiped y vs)) sw hbq (s1.sub.free hq) nq
    refine lc_it w (Qd := fun H => Q (.ref q) H) Pv ⟨_, [], [], rfl, rfl, b1, b2, upd_same, s1.sub.free hq, .nil, nq, by rw [List.drop_zero]; exact hRR⟩ ?_ ?_ ?_
    · rintro i H hi ⟨z, acc, us, _, rfl, fz, sz, _⟩
      exact hG z sz (fw.ff.trans fz.ff)
    · rintro i v H H' hi ⟨z, acc, us, zs, rfl, fz, sz, h1, h2, h3, h4, h5⟩ hy2
      obtain ⟨z', d, ex, rfl, hd, hv⟩ := hY i z v H' sz (fw.ff.trans fz.ff) hy2
      have s3 := ex.rst sz
      rw [drop_cons hd, ← ex.r] at h5
      have zs' : z'.s = wipe y.s vs := ex.s.trans zs
      have fz' : Fr T (wiped y vs) z' := fz.trans (ex.fr T)
      obtain ⟨i1, i2, i3⟩ := stays (ex.fr T) h1 h2 h4
      have h3' := h3.mono ex.ff
      rw [← zs']
      have c5 : compD vs fg ft fe (d :: ds.drop (i + 1)) acc z'.r ≠ .bad := by rw [h5]; exact good
      unfold compD mB at h5 c5
      refine eg z' v d _ s3 hv (noX_post (W := W0) ?_)
      cases eg1 : noX (fg d) z'.r with
      | bad => simp only [eg1] at c5; exact (c5 rfl).elim
      | exc c pl r => exact (noX_exc eg1).elim
      | ok _ ρ2 =>
        simp only [eg1] at h5 c5
        intro z2 hz2 f2 s2
        rw [← hz2] at h5 c5
        have f2T : Fr T z' z2 := f2.mono hT
        obtain ⟨j1, j2, j3⟩ := stays f2T i1 i2 i3
        have hw2 : wipe z2.s vs = wipe y.s vs := by
          have l2 : z2.s.length = z'.s.length := by rw [s2.len, s3.len]; exact f2.ln
          rw [wipe_eq l2 fun i hi => (f2.un i hi).2, zs', wipe_wipe]
        refine ⟨hw2.trans zs'.symm, ?_⟩
        refine et z2 _ s2 (noX_post (W := W0) ?_)
        cases et1 : noX ft z2.r with
        | bad => simp only [et1] at c5; exact (c5 rfl).elim
        | exc c pl r => exact (noX_exc et1).elim
        | ok b ρ3 =>
          simp only [et1] at h5 c5
          intro z3 hz3 f3 s3' e3
          rw [← hz3] at h5 c5
          obtain ⟨k1, k2, k3⟩ := stays f3 j1 j2 j3
          have fz3 : Fr T (wiped y vs) z3 := (fz'.trans f2T).trans f3
          cases b with
          | false =>
            simp only [Bool.false_eq_true, if_false] at h5 c5 ⊢
            obtain ⟨g1, g2⟩ := wiped_ok (T := T) s3' hT
            refine ⟨wiped z3 vs, acc, us, by show wipe z3.s vs = _; rw [e3, hw2], rfl, fz3.trans g1, g2, k1, k2, h3'.mono (f2.ff.trans f3.ff), fun i k c => k3 i k (wiped_cel c).2, ?_⟩
            exact h5
          | true =>
            simp only [if_true] at h5 c5 ⊢
            rw [← e3]
            refine ee z3 _ s3' (noX_post (W := W0) ?_)
            cases ee1 : noX fe z3.r with
            | bad => simp only [ee1] at c5; exact (c5 rfl).elim
            | exc c pl r => exact (noX_exc ee1).elim
            | ok d4 ρ4 =>
              simp only [ee1] at h5 c5
              intro z4 hz4 f4 s4 e4 v4 hv4
              rw [← hz4] at h5 c5
              obtain ⟨l1, l2, l3⟩ := stays f4 k1 k2 k3
              have fz4 := fz3.trans f4
              by_cases c : decide (acc.length < most) = true
              · rw [if_pos c] at h5 c5
                have hl : us.length < sizeLine := by rw [h3.length]; exact Nat.lt_of_lt_of_le (of_decide_eq_true c) most_line
                obtain ⟨g1, g2⟩ := wiped_ok (T := T) s4 hT
                obtain ⟨m1, m2⟩ := bump (o := .lst (us ++ [v4])) (fz4.trans g1) g2 hbq l2 fun i k c => l3 i k (wiped_cel c).2
                refine ⟨us, l1, hl, ⟨_, acc ++ [d4], us ++ [v4], ?_, rfl, m1, m2, upd_same, l2, ?_, fun i k c => l3 i k (wiped_cel (x := z4) ⟨c.1, c.2⟩).2, h5⟩⟩
                · show wipe z4.s vs = _
                  rw [e4, e3, hw2]
                · exact (h3'.mono (f2.ff.trans (f3.ff.trans f4.ff))).app (.cons hv4 .nil)
              · rw [if_neg c] at c5
                exact (c5 rfl).elim
    · rintro H ⟨z, acc, us, zs, rfl, fz, sz, h1, h2, h3, h4, h5⟩
      rw [List.drop_length] at h5
      exact key acc z.r z h5.symm rfl zs fz sz h4 us h1 h2 h3
end
end FL
namespace FL
open PySem PySem.Spec L2
section
variable {X : Cx} {W : WX} {T : List Nat} {K : PySem.W.Frag}
/-! ### comprehensions -/
structure STs (X : Cx) (W : WX) (T : List Nat) (es : List Expr) (f : M Bool) : Prop where
  ex : ∃ t, PTs X es t ∧ EvT X W T t f
theorem sts_nil : STs X W T [] (mP true) := ⟨_, pts_nil, fun x Q s p => p x rfl (Fr.refl T x) s rfl⟩
theorem sts_one {e : Expr} {f : M Bool} (h : ST X W T e f) : STs X W T [e] f := by
  obtain ⟨t, p, e⟩ := h.ex
  exact ⟨_, pts_one p, e⟩
/-! a reading that hangs on the plain function alone -/
def canE (K : PySem.W.Frag) (mg : Str → Option Value) (W : WX) (T : List Nat) (f : M D) : TE := fun σ H Q => ∃ x : Cf, x.s = σ ∧ x.H = H ∧ RSt K x ∧ Post K mg T W x (f x.r) (fun d y => y.s = x.s → ∀ v, Rep K y.F v d → Q v y.H)
def canT (K : PySem.W.Frag) (mg : Str → Option Value) (W : WX) (T : List Nat) (f : M Bool) : TT := fun σ H Q => ∃ x : Cf, x.s = σ ∧ x.H = H ∧ RSt K x ∧ Post K mg T W x (f x.r) (fun d y => y.s = x.s → Q d y.H)
def canG (K : PySem.W.Frag) (mg : Str → Option Value) (W : WX) (T : List Nat) (f : D → M Unit) : TG := fun v σ H Q => ∃ (x : Cf) (d : D), x.s = σ ∧ x.H = H ∧ RSt K x ∧ Rep K x.F v d ∧ Post K mg T W x (f d x.r) (fun _ y => Q y.s y.H)
def canI (K : PySem.W.Frag) (mg : Str → Option Value) (W : WX) (T : List Nat) (f : M (List D)) : TI := fun σ H R => ∃ x : Cf, x.s = σ ∧ x.H = H ∧ RSt K x ∧ Post K mg T W x (f x.r) (fun ds y => y.s = x.s → ∀ J, WalkD K J ds y → R J y.H)
theorem canE_ev {f : M D} : EvE X W T (canE X.K X.mg W T f) f := fun x Q s p => ⟨x, rfl, rfl, s, p⟩
theorem canT_ev {f : M Bool} : EvT X W T (canT X.K X.mg W T f) f := fun x Q s p => ⟨x, rfl, rfl, s, p⟩
theorem canG_ev {f : D → M Unit} : EvG X W T (canG X.K X.mg W T f) f := fun x v d Q s h p => ⟨x, d, rfl, rfl, s, h, p⟩
theorem canI_ev {f : M (List D)} : EvI X W T (canI X.K X.mg W T f) f := fun x Q s p => ⟨x, rfl, rfl, s, p⟩
theorem SE.can {e : Expr} {f : M D} (h : SE X W T e f) : PE X e (canE X.K X.mg W T f) := by
  obtain ⟨te, pe, ev⟩ := h.ex
  constructor
  rintro pins s σ H Q I ⟨x, rfl, rfl, sx, p⟩
  exact pe.run pins s x.s x.H Q I (ev x Q sx p)
theorem STs.can {e : List Expr} {f : M Bool} (h : STs X W T e f) : PTs X e (canT X.K X.mg W T f) := by
  obtain ⟨te, pe, ev⟩ := h.ex
  constructor
  rintro pins s σ H Q I ⟨x, rfl, rfl, sx, p⟩
  exact pe.run pins s x.s x.H Q I (ev x Q sx p)
theorem SG.can {e : Expr} {f : D → M Unit} (h : SG X W T e f) : PG X e (canG X.K X.mg W T f) := by
  obtain ⟨te, pe, ev⟩ := h.ex
  constructor
  rintro pins s σ H v u Q I r ⟨x, d, rfl, rfl, sx, hv, p⟩
  exact pe.run pins s x.s x.H v u Q I r (ev x v d Q sx hv p)
theorem SI.can {tg e : Expr} {f : M (List D)} (h : SI X W T tg e f) : PI X tg e (canI X.K X.mg W T f) := by
  obtain ⟨te, pe, ev⟩ := h.ex
  constructor
  rintro pins s σ H R I ⟨x, rfl, rfl, sx, p⟩
  exact pe.run pins s x.s x.H R I (ev x R sx p)
theorem el_comp (own : List (Str × Nat)) {elt tg iter : Expr} {ifs : List Expr} {scope : Scope} {pos : Pos} {fi : M (List D)} {fg : D → M Unit} {ft : M Bool} {fe : M D} (hc : X.calm = true) (hN : X.N.Nodup) (hi : SI X W T tg iter fi)
    (hg : ∀ (s : Shared) (H : Hp) (C : Addr) (cl : List (Str × Addr)) (fp : List Addr), SG (X.blk s H scope (compEnvC scope cl C X.env) fp) W0 (own.map (·.2)) tg fg)
    (ht : ∀ (s : Shared) (H : Hp) (C : Addr) (cl : List (Str × Addr)) (fp : List Addr), STs (X.blk s H scope (compEnvC scope cl C X.env) fp) W0 T ifs ft)
    (he : ∀ (s : Shared) (H : Hp) (C : Addr) (cl : List (Str × Addr)) (fp : List Addr), SE (X.blk s H scope (compEnvC scope cl C X.env) fp) W0 T elt fe)
    (ok : BlkOk X.N X.env.scope scope own) (hT : ∀ i ∈ own.map (·.2), i ∈ T := by decide) (hs : ∀ x, foldedSetIterable iter X.env x = pure x := by intro _; rfl) : SL X W T (.ListComp elt [⟨tg, iter, ifs, 0⟩] scope pos) (lComp (own.map (·.2)) fi fg ft fe) := by
  obtain ⟨wi, pi, ei⟩ := hi.ex
  exact ⟨_, pe_lc hc hN pi ok (g := canG X.K X.mg W0 (own.map (·.2)) fg) (tt := canT X.K X.mg W0 T ft) (te := canE X.K X.mg W0 T fe) (fun s H C cl fp => (hg s H C cl fp).can) (fun s H C cl fp => (ht s H C cl fp).can) (fun s H C cl fp => (he s H C cl fp).can) hs,
    ev_comp hT ei canG_ev canT_ev canE_ev⟩
/-- y = [..], y a plain local -/
theorem ss_setComp (i : Nat) (own : List (Str × Nat)) {y : Str} {py : Pos} {elt tg iter : Expr} {ifs : List Expr} {scope : Scope} {pos spos : Pos} {fi : M (List D)} {fg : D → M Unit} {ft : M Bool} {fe : M D} (hc : X.calm = true) (hN : X.N.Nodup) (hi : SI X W T tg iter fi)
    (hg : ∀ (s : Shared) (H : Hp) (C : Addr) (cl : List (Str × Addr)) (fp : List Addr), SG (X.blk s H scope (compEnvC scope cl C X.env) fp) W0 (own.map (·.2)) tg fg)
    (ht : ∀ (s : Shared) (H : Hp) (C : Addr) (cl : List (Str × Addr)) (fp : List Addr), STs (X.blk s H scope (compEnvC scope cl C X.env) fp) W0 T ifs ft)
    (he : ∀ (s : Shared) (H : Hp) (C : Addr) (cl : List (Str × Addr)) (fp : List Addr), SE (X.blk s H scope (compEnvC scope cl C X.env) fp) W0 T elt fe)
    (ok : BlkOk X.N X.env.scope scope own) (hsw : swapsWith (.ListComp elt [⟨tg, iter, ifs, 0⟩] scope pos) (some (.Name y py)) spos.line X.env = pure true)
    (hy : X.N[i]? = some y := by rfl) (hyl : X.env.scope.names.lookup y = some .local := by rfl) (hTi : i ∈ T := by decide) (hT : ∀ i ∈ own.map (·.2), i ∈ T := by decide) (hs : ∀ x, foldedSetIterable iter X.env x = pure x := by intro _; rfl) :
    SS X W T (.Assign [.Name y py] (.ListComp elt [⟨tg, iter, ifs, 0⟩] scope pos) spos) (sSet i (xFz (lComp (own.map (·.2)) fi fg ft fe))) := by
  obtain ⟨wi, pi, ei⟩ := hi.ex
  exact ⟨_, ps_setLc hc hN hy hyl hsw pi ok (g := canG X.K X.mg W0 (own.map (·.2)) fg) (tt := canT X.K X.mg W0 T ft) (te := canE X.K X.mg W0 T fe) (fun s H C cl fp => (hg s H C cl fp).can) (fun s H C cl fp => (ht s H C cl fp).can) (fun s H C cl fp => (he s H C cl fp).can) hs,
    ev_set i (ev_comp hT ei canG_ev canT_ev canE_ev).fz hTi⟩
theorem ss_setCompL (i : Nat) (own : List (Str × Nat)) {y : Str} {py : Pos} {elt tg iter : Expr} {ifs : List Expr} {scope : Scope} {pos spos : Pos} {fi : M (List D)} {fg : D → M Unit} {ft : M Bool} {fe : M D} (hc : X.calm = true) (hN : X.N.Nodup) (hi : SI X W T tg iter fi)
    (hg : ∀ (s : Shared) (H : Hp) (C : Addr) (cl : List (Str × Addr)) (fp : List Addr), SG (X.blk s H scope (compEnvC scope cl C X.env) fp) W0 (own.map (·.2)) tg fg)
    (ht : ∀ (s : Shared) (H : Hp) (C : Addr) (cl : List (Str × Addr)) (fp : List Addr), STs (X.blk s H scope (compEnvC scope cl C X.env) fp) W0 T ifs ft)
    (he : ∀ (s : Shared) (H : Hp) (C : Addr) (cl : List (Str × Addr)) (fp : List Addr), SE (X.blk s H scope (compEnvC scope cl C X.env) fp) W0 T elt fe)
    (ok : BlkOk X.N X.env.scope scope own) (hsw : swapsWith (.ListComp elt [⟨tg, iter, ifs, 0⟩] scope pos) (some (.Name y py)) spos.line X.env = pure true)
    (hy : X.N[i]? = some y := by rfl) (hyl : X.env.scope.names.lookup y = some .local := by rfl) (hTi : i ∈ T := by decide) (hT : ∀ i ∈ own.map (·.2), i ∈ T := by decide) (hs : ∀ x, foldedSetIterable iter X.env x = pure x := by intro _; rfl) :
    SS X W T (.Assign [.Name y py] (.ListComp elt [⟨tg, iter, ifs, 0⟩] scope pos) spos) (sSetL i (lComp (own.map (·.2)) fi fg ft fe)) := by
  obtain ⟨wi, pi, ei⟩ := hi.ex
  exact ⟨_, ps_setLc hc hN hy hyl hsw pi ok (g := canG X.K X.mg W0 (own.map (·.2)) fg) (tt := canT X.K X.mg W0 T ft) (te := canE X.K X.mg W0 T fe) (fun s H C cl fp => (hg s H C cl fp).can) (fun s H C cl fp => (ht s H C cl fp).can) (fun s H C cl fp => (he s H C cl fp).can) hs,
    ev_setL i (ev_comp hT ei canG_ev canT_ev canE_ev) hTi⟩
end
end FL
namespace FL
open PySem PySem.Spec L2
section
variable {X : Cx} {W : WX} {T : List Nat} {K : PySem.W.Frag} {x : Str} {st : Stmt} {ps : List Str} {k : Nat} {F : List Ent → R D} {e : Expr} {es : List Expr} {p pos : Pos}
/-! ### built-ins by name -/
def lenB : List D → Option D
  | [.tup ds] => some (.int ds.length)
  | [.lst ds] => some (.int ds.length)
  | [.scr ds] => some (.int ds.length)
  | [.str z] => if decide (z.length ≤ most) then some (.int z.length) else none
  | _ => none
theorem one_arg {F : Hp} {vs : List V} {d : D} (h : RepL K F vs [d]) : ∃ v, vs = [v] ∧ Rep K F v d := by
  cases h with
  | cons h r => cases r; exact ⟨_, rfl, h⟩
theorem two_args {F : Hp} {vs : List V} {d e : D} (h : RepL K F vs [d, e]) : ∃ v w, vs = [v, w] ∧ Rep K F v d ∧ Rep K F w e := by
  cases h with
  | cons h r =>
    obtain ⟨w, rfl, g⟩ := one_arg r
    exact ⟨_, w, rfl, h, g⟩
theorem ok_len : CallOk K (fun xs H Q => ∃ x n, xs = [x] ∧ LenV K x H n ∧ Q (.int n) H) lenB := by
  intro x vs ds z Q s hv q k
  match ds, q with
  | [.tup gs], q =>
    obtain ⟨v, rfl, h⟩ := one_arg hv
    cases q
    cases h with
    | tup h r => exact ⟨_, _, rfl, .inr ⟨_, sameT s.sub h, rfl⟩, by rw [r.length]; exact k x _ (Ext.refl s) (.int _)⟩
  | [.lst gs], q =>
    obtain ⟨v, rfl, h⟩ := one_arg hv
    cases q
    cases h with
    | lst h r => exact ⟨_, _, rfl, .inl ⟨_, SqL.of (s.sub _ _ h), rfl⟩, by rw [r.length]; exact k x _ (Ext.refl s) (.int _)⟩
  | [.scr gs], q =>
    obtain ⟨v, rfl, h⟩ := one_arg hv
    cases q
    cases h with
    | scr h r => exact ⟨_, _, rfl, .inl ⟨_, s.sub.seq h, rfl⟩, by rw [r.length]; exact k x _ (Ext.refl s) (.int _)⟩
  | [.str y], q =>
    obtain ⟨v, rfl, h⟩ := one_arg hv
    simp only [lenB] at q
    split at q
    · rename_i c
      cases q
      cases h
      exact ⟨_, _, rfl, ⟨of_most c, rfl⟩, k x _ (Ext.refl s) (.int _)⟩
    · cases q
def int1 (g : Int → Int) : List D → Option D
  | [.int i] => some (.int (g i))
  | _ => none
def int2 (g : Int → Int → Int) : List D → Option D
  | [.int i, .int j] => some (.int (g i j))
  | _ => none
theorem ok_int1 {g : Int → Int} : CallOk K (fun xs H Q => ∃ i, xs = [.int i] ∧ Q (.int (g i)) H) (int1 g) := by
  intro x vs ds z Q s hv q k
  match ds, q with
  | [.int i], q =>
    obtain ⟨v, rfl, h⟩ := one_arg hv
    cases q
    cases h
    exact ⟨i, rfl, k x _ (Ext.refl s) (.int _)⟩
theorem ok_int2 {g : Int → Int → Int} : CallOk K (fun xs H Q => ∃ i j, xs = [.int i, .int j] ∧ Q (.int (g i j)) H) (int2 g) := by
  intro x vs ds z Q s hv q k
  match ds, q with
  | [.int i, .int j], q =>
    obtain ⟨v, w, rfl, h, h2⟩ := two_args hv
    cases q
    cases h
    cases h2
    exact ⟨i, j, rfl, k x _ (Ext.refl s) (.int _)⟩
def absB : List D → Option D := int1 fun i => if i < 0 then -i else i
def max2B : List D → Option D := int2 fun i j => if j > i then j else i
def min2B : List D → Option D := int2 fun i j => if j < i then j else i
def intB : List D → Option D
  | [.int i] => some (.int i)
  | [.bl b] => some (.int (if b then 1 else 0))
  | _ => none
theorem ok_int : CallOk K (fun xs H Q => (∃ i, xs = [.int i] ∧ Q (.int i) H) ∨ ∃ k, xs = [.bl k] ∧ Q (.int (if k then 1 else 0)) H) intB := by
  intro x vs ds z Q s hv q k
  match ds, q with
  | [.int i], q =>
    obtain ⟨v, rfl, h⟩ := one_arg hv
    cases q
    cases h
    exact .inl ⟨i, rfl, k x _ (Ext.refl s) (.int _)⟩
  | [.bl b], q =>
    obtain ⟨v, rfl, h⟩ := one_arg hv
    cases q
    cases h
    exact .inr ⟨b, rfl, k x _ (Ext.refl s) (.int _)⟩
def strB : List D → Option D
  | [.int i] => if decide (i.natAbs.log2 < 1920) then some (.str (toString i)) else none
  | _ => none
theorem ok_str : CallOk K (fun xs H Q => ∃ i, xs = [.int i] ∧ i.natAbs.log2 < 1920 ∧ Q (.str (toString i)) H) strB := by
  intro x vs ds z Q s hv q k
  match ds, q with
  | [.int i], q =>
    obtain ⟨v, rfl, h⟩ := one_arg hv
    simp only [strB] at q
    split at q
    · rename_i c
      cases q
      cases h
      exact ⟨i, rfl, of_decide_eq_true c, k x _ (Ext.refl s) (.str _)⟩
    · cases q
/-- the name of a value's type -/
def tyN : D → Option String
  | .non => some "NoneType"
  | .bl _ => some "bool"
  | .int _ => some "int"
  | .str _ => some "str"
  | .tup _ => some "tuple"
  | .lst _ => some "list"
  | .dct _ => some "dict"
  | _ => none
def isB : List D → Option D
  | [d, .opq (.ty n)] => match tyN d with
    | some m => (kitB m n).map .bl
    | none => none
  | _ => none
theorem tyX_of {F H : Hp} {v : V} {d : D} {m : String} (e : Same F H) (h : Rep K F v d) (q : tyN d = some m) : TyX K H v (.type m) := by
  cases h <;> try (simp [tyN] at q; done)
  · cases q; exact .base .non
  · cases q; exact .base (.bl _)
  · cases q; exact .base (.int _)
  · cases q; exact .base (.str _)
  · rename_i h r
    cases q
    rcases h with (h | ⟨o, h⟩) | ⟨o, its, n, h, hc, _⟩
    · exact .base (.tup (e _ _ h))
    · exact .fTuple (e _ _ h)
    · exact .kTuple h hc
  · rename_i h r; cases q; exact .base (.lst (e _ _ h))
  · rename_i h r; cases q; exact .base (.dK (e _ _ h))
theorem ok_is : CallOk K (rIsi K) isB := by
  intro x vs ds z Q s hv q k
  match ds, q with
  | [d, .opq (.ty n)], q =>
    obtain ⟨v, w, rfl, h, h2⟩ := two_args hv
    cases h2
    simp only [isB] at q
    split at q
    · rename_i m hm
      cases g : kitB m n with
      | none => rw [g] at q; cases q
      | some b =>
        rw [g] at q
        cases q
        exact ⟨_, _, .type m, .type n, b, rfl, .ty n, tyX_of s.sub h hm, kit_ty g, k x _ (Ext.refl s) (.bl b)⟩
    · cases q
/-- a built-in type's name as a value -/
theorem se_type {n : Str} {t : String} {pos : Pos} (hm : X.mg n = none) (hv : bootBuiltins n = some (.type t)) (hg : Gl X n := by rfl) (hn : n ≠ "__name__" := by decide) (hd : (n == ("__debug__" : Str)) = false := by decide) : SE X W T (.Name n pos) (xC (.opq (.ty t))) :=
  ⟨_, pe_bltn (v := .ty t) hg hm hv rfl hn hd, ev_const fun _ => .opq _⟩
def tupB : List D → Option D
  | [.tup ds] => some (.tup ds)
  | [.lst ds] => some (.tup ds)
  | [.scr ds] => some (.tup ds)
  | _ => none
theorem ok_tup : CallOk K (fun xs H Q => ∃ p ys, xs = [.ref p] ∧ ((SqL K H p ys ∧ ∀ l, H l = none → Q (.ref l) (upd H l (.tup ys))) ∨ (SqT K H p ys ∧ Q (.ref p) H))) tupB := by
  intro x vs ds z Q s hv q k
  have new : ∀ {us : List V} {gs : List D}, RepL K x.F us gs → z = .tup gs → ∀ l, x.H l = none → Q (.ref l) (upd x.H l (.tup us)) := fun r e l hl => by
    subst e
    obtain ⟨a, b⟩ := ext_tup s hl r
    exact k _ _ a b
  match ds, q with
  | [.tup gs], q =>
    obtain ⟨v, rfl, h⟩ := one_arg hv
    cases q
    have h' := h
    cases h with
    | tup h r => exact ⟨_, _, rfl, .inr ⟨sameT s.sub h, k x _ (Ext.refl s) h'⟩⟩
  | [.lst gs], q =>
    obtain ⟨v, rfl, h⟩ := one_arg hv
    cases q
    cases h with
    | lst h r => exact ⟨_, _, rfl, .inl ⟨SqL.of (s.sub _ _ h), new r rfl⟩⟩
  | [.scr gs], q =>
    obtain ⟨v, rfl, h⟩ := one_arg hv
    cases q
    cases h with
    | scr h r => exact ⟨_, _, rfl, .inl ⟨s.sub.seq h, new r rfl⟩⟩
/-- numbers, truths alone -/
def numsOf : List D → Option (List Int)
  | [] => some []
  | .int i :: r => (numsOf r).map (i :: ·)
  | _ => none
def trusOf : List D → Option (List Bool)
  | [] => some []
  | .bl b :: r => (trusOf r).map (b :: ·)
  | _ => none
theorem ints_rep {F : Hp} : ∀ {us : List V} {ds : List D} {ns : List Int}, RepL K F us ds → numsOf ds = some ns → us = ns.map V.int
  | _, _, _, .nil, h => by cases h; rfl
  | _, _, ns, .cons (d := .int i) (ds := ds) h r, q => by
    simp only [numsOf] at q
    cases g : numsOf ds with
    | none => rw [g] at q; cases q
    | some ms =>
      rw [g] at q
      cases q
      cases h
      rw [ints_rep r g]; rfl
theorem bools_rep {F : Hp} : ∀ {us : List V} {ds : List D} {bs : List Bool}, RepL K F us ds → trusOf ds = some bs → us = bs.map V.bl
  | _, _, _, .nil, h => by cases h; rfl
  | _, _, ns, .cons (d := .bl i) (ds := ds) h r, q => by
    simp only [trusOf] at q
    cases g : trusOf ds with
    | none => rw [g] at q; cases q
    | some ms =>
      rw [g] at q
      cases q
      cases h
      rw [bools_rep r g]; rfl
def sumB : List D → Option D
  | [.lst ds] => (numsOf ds).map fun ns => .int ns.sum
  | _ => none
theorem ok_sum : CallOk K (rSum K) sumB := by
  intro x vs ds z Q s hv q k
  match ds, q with
  | [.lst gs], q =>
    obtain ⟨v, rfl, h⟩ := one_arg hv
    simp only [sumB] at q
    cases g : numsOf gs with
    | none => rw [g] at q; cases q
    | some ns =>
      rw [g] at q
      cases q
      cases h with
      | lst h r =>
        have := ints_rep r g
        subst this
        exact ⟨_, ns, rfl, SqL.of (s.sub _ _ h), k x _ (Ext.refl s) (.int _)⟩
def anyB : List D → Option D
  | [.lst ds] => (trusOf ds).map fun bs => .bl (bs.any id)
  | _ => none
def allB : List D → Option D
  | [.lst ds] => (trusOf ds).map fun bs => .bl (bs.all id)
  | _ => none
theorem ok_any : CallOk K (rAny K) anyB := by
  intro x vs ds z Q s hv q k
  match ds, q with
  | [.lst gs], q =>
    obtain ⟨v, rfl, h⟩ := one_arg hv
    simp only [anyB] at q
    cases g : trusOf gs with
    | none => rw [g] at q; cases q
    | some ns =>
      rw [g] at q
      cases q
      cases h with
      | lst h r =>
        have := bools_rep r g
        subst this
        exact ⟨_, ns, rfl, SqL.of (s.sub _ _ h), k x _ (Ext.refl s) (.bl _)⟩
theorem ok_all : CallOk K (rAll K) allB := by
  intro x vs ds z Q s hv q k
  match ds, q with
  | [.lst gs], q =>
    obtain ⟨v, rfl, h⟩ := one_arg hv
    simp only [allB] at q
    cases g : trusOf gs with
    | none => rw [g] at q; cases q
    | some ns =>
      rw [g] at q
      cases q
      cases h with
      | lst h r =>
        have := bools_rep r g
        subst this
        exact ⟨_, ns, rfl, SqL.of (s.sub _ _ h), k x _ (Ext.refl s) (.bl _)⟩
def maxL : List Int → Option Int
  | [] => none
  | i :: r => some (r.foldl max i)
def minL : List Int → Option Int
  | [] => none
  | i :: r => some (r.foldl min i)
theorem foldl_max : ∀ (r : List Int) (i : Int), (r.foldl max i = i ∨ r.foldl max i ∈ r) ∧ i ≤ r.foldl max i ∧ ∀ y ∈ r, y ≤ r.foldl max i
  | [], i => ⟨.inl rfl, Int.le_refl i, fun y h => nomatch h⟩
  | a :: r, i => by
    obtain ⟨h1, h2, h3⟩ := foldl_max r (max i a)
    show (r.foldl max (max i a) = i ∨ r.foldl max (max i a) ∈ a :: r) ∧ i ≤ r.foldl max (max i a) ∧ ∀ y ∈ a :: r, y ≤ r.foldl max (max i a)
    refine ⟨?_, by omega, fun y hy => ?_⟩
    · rcases h1 with h1 | h1
      · by_cases c : a ≤ i
        · left; rw [h1]; omega
        · right; rw [h1, show max i a = a by omega]; exact List.mem_cons_self
      · exact .inr (List.mem_cons_of_mem _ h1)
    · rcases List.mem_cons.mp hy with z | z
      · omega
      · exact h3 y z
theorem foldl_min : ∀ (r : List Int) (i : Int), (r.foldl min i = i ∨ r.foldl min i ∈ r) ∧ r.foldl min i ≤ i ∧ ∀ y ∈ r, r.foldl min i ≤ y
  | [], i => ⟨.inl rfl, Int.le_refl i, fun y h => nomatch h⟩
  | a :: r, i => by
    obtain ⟨h1, h2, h3⟩ := foldl_min r (min i a)
    show (r.foldl min (min i a) = i ∨ r.foldl min (min i a) ∈ a :: r) ∧ r.foldl min (min i a) ≤ i ∧ ∀ y ∈ a :: r, r.foldl min (min i a) ≤ y
    refine ⟨?_, by omega, fun y hy => ?_⟩
    · rcases h1 with h1 | h1
      · by_cases c : i ≤ a
        · left; rw [h1]; omega
        · right; rw [h1, show min i a = a by omega]; exact List.mem_cons_self
      · exact .inr (List.mem_cons_of_mem _ h1)
    · rcases List.mem_cons.mp hy with z | z
      · omega
      · exact h3 y z
theorem maxL_mem {ns : List Int} {m : Int} (h : maxL ns = some m) : m ∈ ns ∧ ∀ y ∈ ns, y ≤ m := by
  cases ns with
  | nil => cases h
  | cons i r =>
    cases h
    obtain ⟨h1, h2, h3⟩ := foldl_max r i
    refine ⟨?_, fun y hy => ?_⟩
    · rcases h1 with h1 | h1
      · rw [h1]; exact List.mem_cons_self
      · exact List.mem_cons_of_mem _ h1
    · rcases List.mem_cons.mp hy with z | z
      · rw [z]; exact h2
      · exact h3 y z
theorem minL_mem {ns : List Int} {m : Int} (h : minL ns = some m) : m ∈ ns ∧ ∀ y ∈ ns, m ≤ y := by
  cases ns with
  | nil => cases h
  | cons i r =>
    cases h
    obtain ⟨h1, h2, h3⟩ := foldl_min r i
    refine ⟨?_, fun y hy => ?_⟩
    · rcases h1 with h1 | h1
      · rw [h1]; exact List.mem_cons_self
      · exact List.mem_cons_of_mem _ h1
    · rcases List.mem_cons.mp hy with z | z
      · rw [z]; exact h2
      · exact h3 y z
def maxB : List D → Option D
  | [.lst ds] => (numsOf ds).bind fun ns => (maxL ns).map .int
  | _ => none
def minB : List D → Option D
  | [.lst ds] => (numsOf ds).bind fun ns => (minL ns).map .int
  | _ => none
theorem ok_max : CallOk K (rMax K) maxB := by
  intro x vs ds z Q s hv q k
  match ds, q with
  | [.lst gs], q =>
    obtain ⟨v, rfl, h⟩ := one_arg hv
    simp only [maxB] at q
    cases g : numsOf gs with
    | none => rw [g] at q; cases q
    | some ns =>
      rw [g] at q
      cases g2 : maxL ns with
      | none => simp only [Option.bind_some, g2] at q; cases q
      | some m =>
        simp only [Option.bind_some, g2] at q
        cases q
        cases h with
        | lst h r =>
          have := ints_rep r g
          subst this
          refine ⟨_, ns, rfl, SqL.of (s.sub _ _ h), ?_, fun m' h1 h2 => ?_⟩
          · cases ns with
            | nil => cases g2
            | cons _ _ => exact Nat.succ_pos _
          · obtain ⟨h3, h4⟩ := maxL_mem g2
            have : m' = m := Int.le_antisymm (h4 m' h1) (h2 m h3)
            subst this
            exact k x _ (Ext.refl s) (.int _)
theorem ok_min : CallOk K (rMin K) minB := by
  intro x vs ds z Q s hv q k
  match ds, q with
  | [.lst gs], q =>
    obtain ⟨v, rfl, h⟩ := one_arg hv
    simp only [minB] at q
    cases g : numsOf gs with
    | none => rw [g] at q; cases q
    | some ns =>
      rw [g] at q
      cases g2 : minL ns with
      | none => simp only [Option.bind_some, g2] at q; cases q
      | some m =>
        simp only [Option.bind_some, g2] at q
        cases q
        cases h with
        | lst h r =>
          have := ints_rep r g
          subst this
          refine ⟨_, ns, rfl, SqL.of (s.sub _ _ h), ?_, fun m' h1 h2 => ?_⟩
          · cases ns with
            | nil => cases g2
            | cons _ _ => exact Nat.succ_pos _
          · obtain ⟨h3, h4⟩ := minL_mem g2
            have : m' = m := Int.le_antisymm (h2 m h3) (h4 m' h1)
            subst this
            exact k x _ (Ext.refl s) (.int _)
def dmB : List D → Option D
  | [.int i, .int j] => if decide (0 < j ∧ j < 1073741824) then some (.tup [.int (i / j), .int (i % j)]) else none
  | _ => none
theorem ok_dm : CallOk K (fun xs H Q => ∃ i j, xs = [.int i, .int j] ∧ CDiv i j ∧ ∀ p, H p = none → Q (.ref p) (upd H p (.tup [.int (i / j), .int (i % j)]))) dmB := by
  intro x vs ds z Q s hv q k
  match ds, q with
  | [.int i, .int j], q =>
    obtain ⟨v, w, rfl, h, h2⟩ := two_args hv
    cases h
    cases h2
    simp only [dmB] at q
    split at q
    · rename_i c
      cases q
      refine ⟨i, j, rfl, (of_decide_eq_true c : 0 < j ∧ j < 1073741824), fun p hp => ?_⟩
      obtain ⟨a, b⟩ := ext_tup s hp (.cons (.int (i / j)) (.cons (.int (i % j)) .nil))
      exact k _ _ a b
    · cases q
def gcdB : List D → Option D := int2 fun a b => ((Nat.gcd a.natAbs b.natAbs : Nat) : Int)
theorem se_gcd {id : String} {r : List V → Hp → VK → Prop} {o : List D → Option D} {fa : M (List D)} (hc : CallR X (.builtin id) r) (h : CallOk X.K r o) (hm : X.mg x = some (.builtin id)) (ha : SD X W T (e :: es) fa) (hg : Gl X x := by rfl)
    (hdb : (x == ("__debug__" : Str)) = false := by decide) (he : starEach (e :: es) X.env = (false, eval e X.env) :: starEach es X.env := by rfl) (hpl : (backTo pos (starEach es X.env)).any (·.1) = false := by rfl) : SE X W T (.Call (.Name x p) (e :: es) [] pos) (xB o fa) := by
  obtain ⟨ta, pa, ea⟩ := ha.ex
  exact ⟨_, pe_callBfun hc hg hm pa hdb he hpl, ev_b h ea⟩
/-- list(x): a new list -/
def listB : List D → Option (List D)
  | [.tup ds] => some ds
  | [.lst ds] => some ds
  | [.scr ds] => some ds
  | _ => none
def lB (o : List D → Option (List D)) (m : M (List D)) : M (List D) := mB m fun ds => mO (o ds)
theorem el_list {fa : M (List D)} (hm : X.mg x = none) (ha : SD X W T (e :: es) fa) (hv : bootBuiltins x = some (.type "list")) (hg : Gl X x := by rfl) (hn : x ≠ "__name__" := by decide)
    (hdb : (x == ("__debug__" : Str)) = false := by decide) (he : starEach (e :: es) X.env = (false, eval e X.env) :: starEach es X.env := by rfl) (hpl : (backTo pos (starEach es X.env)).any (·.1) = false := by rfl) : SL X W T (.Call (.Name x p) (e :: es) [] pos) (lB listB fa) := by
  obtain ⟨ta, pa, ea⟩ := ha.ex
  refine ⟨_, pe_callTy call_list_of hg hm hv pa hn hdb he hpl, fun x Q s p => ?_⟩
  refine ea.bind s p fun ds y f1 s1 e1 vs hv p1 => ?_
  cases q : listB ds with
  | none => rw [q] at p1; exact p1.elim
  | some gs =>
    rw [q] at p1
    have new : ∀ {us : List V}, RepL X.K y.F us gs → ∀ l, y.H l = none → Q (.ref l) (upd y.H l (.lst us)) := fun {us} r l hl => by
      have ex := Ext.raw (o := .lst us) s1 hl
      exact Post.here p1 ex s1 (ex.s.trans e1) l us ⟨upd_same, s1.sub.free hl, r⟩ (f1.dm l hl) fun i k c => not_cel s1 hl i k c
    match ds, q with
    | [.tup gs], q =>
      obtain ⟨v, rfl, h⟩ := one_arg hv
      cases q
      cases h with
      | tup h r => exact ⟨_, _, rfl, .inr (sameT s1.sub h), new r⟩
    | [.lst gs], q =>
      obtain ⟨v, rfl, h⟩ := one_arg hv
      cases q
      cases h with
      | lst h r => exact ⟨_, _, rfl, .inl (SqL.of (s1.sub _ _ h)), new r⟩
    | [.scr gs], q =>
      obtain ⟨v, rfl, h⟩ := one_arg hv
      cases q
      cases h with
      | scr h r => exact ⟨_, _, rfl, .inl (s1.sub.seq h), new r⟩
end
end FL
namespace FL
open PySem PySem.Spec L2
open PyProof.Rows (envOfC)
section
variable {X : Cx} {W : WX} {T : List Nat} {K : PySem.W.Frag} {x : Str} {st : Stmt} {ps : List Str} {k : Nat} {F : List Ent → R D} {e : Expr} {es : List Expr} {p pos : Pos}
/-! ### a def's body -/
def outs (io : Option Nat) (r : List Ent) : Option (List Ent) := match io with
  | none => some []
  | some i => match r[i]? with
    | some (.cel .io ds) => some [.cel .io ds]
    | _ => none
/-- what the def is, as a plain function: n its names, b its body -/
def defF (io : Option Nat) (fr : Bool) (n : Nat) (b : M Fl) : List Ent → R D := fun es => match b (es ++ List.replicate (n - es.length) .no) with
  | .ok fl r => match outs io r with
    | some o => match fl, fr with
      | .nx, false => .ok .non o
      | .rt d, false => .ok d o
      | .rtL ds, true => .ok (.lst ds) o
      | _, _ => .bad
    | none => .bad
  | .exc c pl r => match outs io r with
    | some o => .exc c pl o
    | none => .bad
  | .bad => .bad
/-- the state of the body at the entry -/
def bodyOf (x : Cf) (m : Nat) : Cf := ⟨x.F, x.H, x.s ++ List.replicate m none, x.r ++ List.replicate m .no⟩
theorem app_get {α : Type} {l : List α} {m : Nat} {a b : α} {i : Nat} (h : (l ++ List.replicate m a)[i]? = some b) : l[i]? = some b ∨ b = a := by
  by_cases c : i < l.length
  · rw [List.getElem?_append_left c] at h; exact .inl h
  · rw [List.getElem?_append_right (by omega), List.getElem?_replicate] at h
    split at h
    · exact .inr (Option.some.inj h).symm
    · cases h
theorem app_left {α : Type} {l l' : List α} {i : Nat} {b : α} (h : l[i]? = some b) : (l ++ l')[i]? = some b := by
  have := (List.getElem?_eq_some_iff.mp h).1
  rw [List.getElem?_append_left this]; exact h
theorem body_cel {x : Cf} {m i : Nat} {k : CK} {p : Addr} (h : CelAt (bodyOf x m) i k p) (hl : x.s.length = x.r.length) : CelAt x i k p := by
  obtain ⟨⟨ds, h1⟩, h2⟩ := h
  rcases app_get (show (x.r ++ List.replicate m Ent.no)[i]? = some (.cel k ds) from h1) with g | g
  · rcases app_get (show (x.s ++ List.replicate m none)[i]? = some (some (.ref p)) from h2) with g2 | g2
    · exact ⟨⟨ds, g⟩, g2⟩
    · cases g2
  · cases g
theorem body_ok {x : Cf} {m : Nat} (s : RSt K x) : RSt K (bodyOf x m) where
  sub := s.sub
  len := by show (x.s ++ List.replicate m none).length = (x.r ++ List.replicate m Ent.no).length; simp [s.len]
  val := fun i d h => by
    rcases app_get (show (x.r ++ List.replicate m Ent.no)[i]? = some (.val d) from h) with g | g
    · obtain ⟨v, h1, h2⟩ := s.val i d g
      exact ⟨v, app_left h1, h2⟩
    · cases g
  cel := fun i k ds h => by
    rcases app_get (show (x.r ++ List.replicate m Ent.no)[i]? = some (.cel k ds) from h) with g | g
    · obtain ⟨v, h1, h2⟩ := s.cel i k ds g
      exact ⟨v, app_left h1, h2⟩
    · cases g
  dis := fun i j k l p h1 h2 => s.dis i j k l p (body_cel h1 s.len) (body_cel h2 s.len)
theorem body_end {x y : Cf} {m : Nat} {io : Option Nat} {o : List Ent} (s : RSt K x) (hio : ∀ i k p, CelAt x i k p → io = some i ∧ k = .io) (f : Fr T (bodyOf x m) y) (sy : RSt K y) (ho : outs io y.r = some o) :
    Fr io.toList x ⟨y.F, y.H, x.s, outR io x.r o⟩ ∧ RSt K ⟨y.F, y.H, x.s, outR io x.r o⟩ := by
  have cb : ∀ i k p, CelAt (bodyOf x m) i k p → CelAt x i k p := fun i k p c => body_cel c s.len
  -- the changed list, if any
  have keyr : ∀ i e, (outR io x.r o)[i]? = some e → x.r[i]? = some e ∨ (io = some i ∧ ∃ ds, e = .cel .io ds ∧ y.r[i]? = some (.cel .io ds)) := by
    intro i e h
    cases io with
    | none => exact .inl h
    | some j =>
      unfold outs at ho
      simp only at ho
      split at ho
      · rename_i ds g
        cases ho
        rcases get_set (show (x.r.set j (.cel .io ds))[i]? = some e from h) with ⟨e1, e2, _⟩ | ⟨e1, g2⟩
        · subst e1
          exact .inr ⟨rfl, ds, e2.symm, g⟩
        · exact .inl g2
      · cases ho
  have keyc : ∀ i k p, CelAt ⟨y.F, y.H, x.s, outR io x.r o⟩ i k p → CelAt x i k p := by
    rintro i k p ⟨⟨ds, h1⟩, h2⟩
    rcases keyr i (.cel k ds) h1 with g | ⟨g1, es, g2, g3⟩
    · exact ⟨⟨ds, g⟩, h2⟩
    · injection g2 with g4 g5
      subst g4 g5
      obtain ⟨q, h3, us, h4, h5, h6⟩ := sy.cel i _ _ g3
      rcases f.cc i _ q ⟨⟨_, g3⟩, h3⟩ with ⟨z, _⟩ | z
      · cases z
      · obtain ⟨z1, z2⟩ := cb _ _ _ z
        exact ⟨z1, h2⟩
  have lenr : (outR io x.r o).length = x.r.length := by
    unfold outR
    split
    · exact List.length_set ..
    · rfl
  constructor
  · refine ⟨lenr, f.ff, f.dm, fun a u h => ?_, fun a u h n => ?_, fun i k p c => .inr (keyc i k p c), fun i hi => ⟨?_, rfl⟩⟩
    · rcases f.nw a u h with g | g | ⟨i, g⟩
      · exact .inl g
      · exact .inr (.inl g)
      · have := (hio i _ a (cb _ _ _ g)).2
        cases this
    · refine f.hp a u h fun i _ k c => ?_
      have c' := cb _ _ _ c
      have := (hio i k a c').1
      exact n i (by rw [this]; exact List.mem_singleton.mpr rfl) k c'
    · cases e : (outR io x.r o)[i]? with
      | none =>
        rw [List.getElem?_eq_none_iff] at e
        exact (List.getElem?_eq_none (by omega)).symm
      | some en =>
        rcases keyr i en e with g | ⟨g, _⟩
        · exact g.symm
        · rw [g] at hi; exact (hi (List.mem_singleton.mpr rfl)).elim
  · refine ⟨sy.sub, by show x.s.length = (outR io x.r o).length; rw [lenr]; exact s.len, fun i d h => ?_, fun i k es h => ?_, fun i j k l p c c' => s.dis i j k l p (keyc _ _ _ c) (keyc _ _ _ c')⟩
    · rcases keyr i _ h with g | ⟨_, ds, g, _⟩
      · obtain ⟨v, h1, h2⟩ := s.val i d g
        exact ⟨v, h1, h2.mono f.ff⟩
      · cases g
    · rcases keyr i _ h with g | ⟨_, ds, g, g3⟩
      · -- a caller's list that is not given back: there is none
        obtain ⟨p, h1, _⟩ := s.cel i k es g
        obtain ⟨e1, e2⟩ := hio i k p ⟨⟨es, g⟩, h1⟩
        subst e1 e2
        have h' := h
        unfold outs at ho
        simp only at ho
        split at ho
        · rename_i ds g3
          cases ho
          rcases get_set (show (x.r.set i (.cel .io ds))[i]? = some (.cel .io es) from h') with ⟨_, e3, _⟩ | ⟨e3, _⟩
          · cases e3
            obtain ⟨q, h3, h4⟩ := sy.cel i _ es g3
            rcases f.cc i _ q ⟨⟨es, g3⟩, h3⟩ with ⟨z, _⟩ | z
            · cases z
            · have z2 := (cb _ _ _ z).2
              exact ⟨q, z2, h4⟩
          · exact (e3 rfl).elim
        · cases ho
      · cases g
        obtain ⟨q, h3, h4⟩ := sy.cel i _ es g3
        rcases f.cc i _ q ⟨⟨es, g3⟩, h3⟩ with ⟨z, _⟩ | z
        · cases z
        · exact ⟨q, (cb _ _ _ z).2, h4⟩
/-- THE RULE for a def -/
theorem def_ok {P : Program} {w : World} {K : PySem.W.Frag} {mg : Str → Option Value} {base : Heap} {x : Str} {st : Stmt} {N ps : List Str} {k : Nat} {io : Option Nat} {fr : Bool} {T : List Nat} {b : M Fl}
    (hd : ∃ f fd, mg x = some (.ref f) ∧ Fun K x x st f fd ∧ Binds K fd ps []) (S : FnScope N ps (defScope st))
    (body : ∀ (f : Addr) (cdv : Value) (A : Around) (outer : List Env) (s : Shared) (H : Hp) (E : XK), Room k (A.deeper (envOfC x (defScope st) s.heap.objs.size f cdv)) →
      Takes (cxOf (L2.CX P w) P w K mg base N x (defScope st) f cdv A outer s H E) (fun cls d _ H => E cls d H) → PassesOwn (model P w) (A.deeper (envOfC x (defScope st) s.heap.objs.size f cdv)) (envOfC x (defScope st) s.heap.objs.size f cdv) (cxOf (L2.CX P w) P w K mg base N x (defScope st) f cdv A outer s H E).xe →
      SSs (cxOf (L2.CX P w) P w K mg base N x (defScope st) f cdv A outer s H E) (fun cls d _ H => E cls d H) T (defBody st) b) :
    DefOk P w K mg base x st ps (k + 1) io fr (defF io fr N.length b) := by
  obtain ⟨f, fd, hm, Fn, hb⟩ := hd
  refine ⟨f, fd, hm, Fn.kp, Fn, ?_, hb⟩
  refine Fn.okX S (fun vs H Q E h => h.1) fun cdv A outer s H vs Q E hr h => ?_
  obtain ⟨ts, pts, ev⟩ := (body f cdv A outer s H E hr (takes_of rfl rfl rfl rfl) (passes_of rfl)).ex
  refine ⟨ts, pts, ?_⟩
  obtain ⟨hl, z, rfl, hs, sz, hio, hp⟩ := h
  have hzl : z.s.length = ps.length := by rw [hs, List.length_map]; exact hl
  have e1 : L2.start N vs = (bodyOf z (N.length - z.r.length)).s := by
    unfold L2.start bodyOf
    rw [hs, ← sz.len, hs, List.length_map]
  rw [e1]
  refine ev (bodyOf z (N.length - z.r.length)) _ (body_ok sz) ?_
  have e2 : (bodyOf z (N.length - z.r.length)).r = z.r ++ List.replicate (N.length - z.r.length) Ent.no := rfl
  unfold defF at hp
  rw [e2]
  cases q : b (z.r ++ List.replicate (N.length - z.r.length) Ent.no) with
  | bad => rw [q] at hp; exact hp.elim
  | exc c pl ρ =>
    rw [q] at hp
    intro y cls dx hy fy sy w
    rw [← hy] at hp
    simp only at hp
    split at hp
    · rename_i o ho
      obtain ⟨g1, g2⟩ := body_end sz hio fy sy ho
      exact hp ⟨y.F, y.H, z.s, outR io z.r o⟩ cls dx rfl rfl g1 g2 w
    · exact hp.elim
  | ok fl ρ =>
    rw [q] at hp
    intro y hy fy sy
    rw [← hy] at hp
    simp only at hp
    split at hp
    · rename_i o ho
      obtain ⟨g1, g2⟩ := body_end sz hio fy sy ho
      cases fl with
      | nx =>
        cases fr with
        | true => exact hp.elim
        | false => exact hp ⟨y.F, y.H, z.s, outR io z.r o⟩ rfl rfl g1 g2 _ Rep.non
      | br => cases fr <;> exact hp.elim
      | co => cases fr <;> exact hp.elim
      | rt d =>
        cases fr with
        | true => exact hp.elim
        | false => exact fun v hv => hp ⟨y.F, y.H, z.s, outR io z.r o⟩ rfl rfl g1 g2 v hv
      | rtL ds =>
        cases fr with
        | false => exact hp.elim
        | true =>
          intro p us h1 h2
          have h3 : z.H p = none := by
            rcases h2 with h2 | ⟨i, h2⟩
            · exact h2
            · have := (hio i _ p (body_cel h2 sz.len)).2
              cases this
          exact hp ⟨y.F, y.H, z.s, outR io z.r o⟩ rfl rfl g1 g2 (.ref p) ⟨p, ds, rfl, rfl, us, h1, h3⟩
    · exact hp.elim
end
end FL
namespace FL
open PySem PySem.Spec L2
section
variable {X : Cx} {W : WX} {T : List Nat} {K : PySem.W.Frag} {x : Str} {st : Stmt} {ps : List Str} {k : Nat} {F : List Ent → R D} {e : Expr} {es : List Expr} {p pos : Pos}
/-! ### arguments, one of them a list that the callee changes -/
def aVal (a : M D) (r : M (List Arg)) : M (List Arg) := mB a fun d => mB r fun as => mP (.val d :: as)
def hasS (j : Nat) : M Unit := fun r => match r[j]? with
  | some (.cel _ _) => .ok () r
  | _ => .bad
def aLate (j : Nat) (r : M (List Arg)) : M (List Arg) := mB (hasS j) fun _ => mB r fun as => mP (.late j :: as)
theorem ArgsR.shift {x y : Cf} {vs : List V} {as : List Arg} (f : Same x.F y.F) (hs : y.s = x.s) (h : ArgsR K x vs as) : ArgsR K y vs as := by
  induction h with
  | nil => exact .nil
  | cons h _ ih => exact .cons (h.shift f hs) ih
theorem sa_nil : SA X W T [] (mP []) := ⟨_, pa_nil, fun x Q s p => p x rfl (Fr.refl T x) s rfl [] .nil⟩
theorem sa_val {fa : M D} {fr : M (List Arg)} (ha : SE X W T e fa) (hr : SA X W T es fr) (hs : starEach (e :: es) X.env = (false, eval e X.env) :: starEach es X.env := by rfl) : SA X W T (e :: es) (aVal fa fr) := by
  obtain ⟨ta, pa, ea⟩ := ha.ex
  obtain ⟨tr, pr, er⟩ := hr.ex
  refine ⟨_, pa_cons pa pr hs, fun x Q s p => ?_⟩
  refine ea.bind s p fun d y f1 s1 e1 v hv p1 => ?_
  show tr x.s y.H _
  rw [← e1]
  exact er.bind s1 p1 fun as z f2 s2 e2 vs hvs p2 => p2 z rfl (Fr.refl T z) s2 (e2.trans e1) (v :: vs) (.cons (.val (hv.mono f2.ff)) hvs)
theorem sa_late (j : Nat) {n : Str} {p1 : Pos} {fr : M (List Arg)} (hr : SA X W T es fr) (hN : X.N[j]? = some n := by rfl) (hv : Vis X.env.scope n := by first | exact Or.inl rfl | exact Or.inr (Or.inl rfl) | exact Or.inr (Or.inr rfl)) (hd : (n == ("__debug__" : Str)) = false := by decide)
    (hc : (n == ("__classdict__" : Str)) = false := by decide) (hs : starEach (.Name n p1 :: es) X.env = (false, eval (.Name n p1) X.env) :: starEach es X.env := by rfl) : SA X W T (.Name n p1 :: es) (aLate j fr) := by
  obtain ⟨tr, pr, er⟩ := hr.ex
  refine ⟨_, pa_cons (pe_var (i := j) hN hv hd hc) pr hs, fun x Q s p => ?_⟩
  obtain ⟨⟨k, ds, q, us, e0, h0, h1⟩, p1⟩ := hasC_run s p
  refine ⟨_, h0, ?_⟩
  exact er.bind s p1 fun as z f2 s2 e2 vs hvs p2 => p2 z rfl (Fr.refl T z) s2 e2 (.ref q :: vs) (.cons (.late (by rw [e2]; exact h0)) hvs)
def allV : List Arg → Option (List D)
  | [] => some []
  | .val d :: r => (allV r).map (d :: ·)
  | .late _ :: _ => none
def splitA : List Arg → Option (List D × Nat × List D)
  | [] => none
  | .val d :: r => (splitA r).map fun t => (d :: t.1, t.2.1, t.2.2)
  | .late j :: r => (allV r).map fun ds => ([], j, ds)
theorem allV_rep {y : Cf} : ∀ {vs : List V} {as : List Arg} {ds : List D}, ArgsR K y vs as → allV as = some ds → RepL K y.F vs ds
  | _, _, _, .nil, h => by cases h; exact .nil
  | _, _, _, .cons (a := .val d) (as := as) (.val h) r, q => by
    simp only [allV] at q
    cases g : allV as with
    | none => rw [g] at q; cases q
    | some es => rw [g] at q; cases q; exact .cons h (allV_rep r g)
theorem splitA_rep {y : Cf} : ∀ {vs : List V} {as : List Arg} {pre post : List D} {j : Nat}, ArgsR K y vs as → splitA as = some (pre, j, post) → ∃ vs1 v vs2, vs = vs1 ++ v :: vs2 ∧ RepL K y.F vs1 pre ∧ RepL K y.F vs2 post ∧ y.s[j]? = some (some v)
  | _, _, _, _, _, .nil, h => by cases h
  | _, _, _, _, _, .cons (v := v) (a := .val d) (as := as) (.val h) r, q => by
    simp only [splitA] at q
    cases g : splitA as with
    | none => rw [g] at q; cases q
    | some t =>
      rw [g] at q
      obtain ⟨t1, t2, t3⟩ := t
      cases q
      obtain ⟨vs1, w, vs2, e, h1, h2, h3⟩ := splitA_rep r g
      exact ⟨v :: vs1, w, vs2, by rw [e]; rfl, .cons h h1, h2, h3⟩
  | _, _, _, _, _, .cons (v := v) (vs := vs) (a := .late j) (as := as) (.late h) r, q => by
    simp only [splitA] at q
    cases g : allV as with
    | none => rw [g] at q; cases q
    | some es =>
      rw [g] at q
      cases q
      exact ⟨[], v, vs, rfl, .nil, allV_rep r g, h⟩
/-- the callee's slots -/
def ioArgs (pre : List D) (ds : List D) (post : List D) : List Ent := valsOf pre ++ .cel .io ds :: valsOf post
theorem ioArgs_get {pre ds post : List D} {a : Nat} {en : Ent} (h : (ioArgs pre ds post)[a]? = some en) :
    (∃ d, pre[a]? = some d ∧ en = .val d ∧ a < pre.length) ∨ (a = pre.length ∧ en = .cel .io ds) ∨ ∃ b d, a = pre.length + 1 + b ∧ post[b]? = some d ∧ en = .val d := by
  unfold ioArgs at h
  have hl : (valsOf pre).length = pre.length := List.length_map ..
  by_cases c : a < pre.length
  · rw [List.getElem?_append_left (by omega)] at h
    obtain ⟨d, h1, h2⟩ := valsOf_get h
    exact .inl ⟨d, h1, h2, c⟩
  · rw [List.getElem?_append_right (by omega), hl] at h
    cases q : a - pre.length with
    | zero =>
      rw [q] at h
      exact .inr (.inl ⟨by omega, (Option.some.inj h).symm⟩)
    | succ b =>
      rw [q] at h
      obtain ⟨d, h1, h2⟩ := valsOf_get (show (valsOf post)[b]? = some en from h)
      exact .inr (.inr ⟨b, d, by omega, h1, h2⟩)
def callW (np i : Nat) (T : List Nat) (F : List Ent → R D) (m : M (List Arg)) (β : Type) (k : D → Option β) : M β := mB m fun as r => match splitA as with
  | some (pre, j, post) => if decide (as.length = np ∧ pre.length = i ∧ j ∈ T) then (match r[j]? with
    | some (.cel kk ds) => match F (ioArgs pre ds post) with
      | .ok d [.cel .io es] => match k d with
        | some b => .ok b (r.set j (.cel kk es))
        | none => .bad
      | .exc c pl [.cel .io es] => .exc c pl (r.set j (.cel kk es))
      | _ => .bad
    | _ => .bad) else .bad
  | none => .bad
def callI (np i : Nat) (T : List Nat) (F : List Ent → R D) (m : M (List Arg)) : M D := callW np i T F m D some
def unL : D → Option (List D)
  | .lst ds => some ds
  | _ => none
def callIL (np i : Nat) (T : List Nat) (F : List Ent → R D) (m : M (List Arg)) : M (List D) := callW np i T F m (List D) unL
/-- the caller's state behind the call -/
theorem io_back {y z : Cf} {j i : Nat} {kk : CK} {ds es pre post : List D} {vs : List V} {q : Addr} {us : List V} (s : RSt K y) (hj : j ∈ T) (h : y.r[j]? = some (.cel kk ds)) (hs : y.s[j]? = some (some (.ref q))) (hp : y.H q = some (.lst us)) (fq : y.F q = none)
    (hi : pre.length = i) (hvi : vs[i]? = some (.ref q)) (f : Fr [i] ⟨y.F, y.H, vs.map some, ioArgs pre ds post⟩ z) (sz : RSt K z) (zs : z.s = vs.map some) (zr : z.r = (ioArgs pre ds post).set i (.cel .io es)) :
    Fr T y ⟨z.F, z.H, y.s, y.r.set j (.cel kk es)⟩ ∧ RSt K ⟨z.F, z.H, y.s, y.r.set j (.cel kk es)⟩ ∧ ∀ a k p, CelAt ⟨z.F, z.H, y.s, y.r.set j (.cel kk es)⟩ a k p → CelAt y a k p := by
  have lio : i < (ioArgs pre ds post).length := by unfold ioArgs valsOf; simp; omega
  have celx : ∀ a k p, CelAt ⟨y.F, y.H, vs.map some, ioArgs pre ds post⟩ a k p → a = i ∧ k = .io ∧ p = q := by
    rintro a k p ⟨⟨gs, h1⟩, h2⟩
    rcases ioArgs_get h1 with ⟨d, _, e, _⟩ | ⟨e1, e2⟩ | ⟨b, d, _, _, e⟩
    · cases e
    · cases e2
      have h2' : (vs.map some)[a]? = some (some (V.ref p)) := h2
      rw [e1, hi, List.getElem?_map, hvi] at h2'
      cases h2'
      exact ⟨by omega, rfl, rfl⟩
    · cases e
  have cely : CelAt y j kk q := ⟨⟨ds, h⟩, hs⟩
  have keyc : ∀ a k p, CelAt ⟨z.F, z.H, y.s, y.r.set j (.cel kk es)⟩ a k p → CelAt y a k p := by
    rintro a k p ⟨⟨gs, h1⟩, h2⟩
    rcases get_set h1 with ⟨e1, e2, _⟩ | ⟨e1, g⟩
    · subst e1
      cases e2
      exact ⟨⟨ds, h⟩, h2⟩
    · exact ⟨⟨gs, g⟩, h2⟩
  refine ⟨?_, ?_, keyc⟩
  · refine ⟨List.length_set .., f.ff, f.dm, fun a o e => ?_, fun a o e n => ?_, fun a k p c => .inr (keyc a k p c), fun a ha => ⟨List.getElem?_set_ne (fun z => ha (by rw [← z]; exact hj)), rfl⟩⟩
    · rcases f.nw a o e with g | g | ⟨b, g⟩
      · exact .inl g
      · exact .inr (.inl g)
      · have := (celx b _ a g).2.1
        cases this
    · refine f.hp a o e fun b _ k c => ?_
      obtain ⟨_, _, e3⟩ := celx b k a c
      exact n j hj kk (by rw [e3]; exact cely)
  · refine ⟨sz.sub, by show y.s.length = (y.r.set j _).length; rw [List.length_set]; exact s.len, fun a d e => ?_, fun a k gs e => ?_, fun a b k l p c c' => s.dis a b k l p (keyc _ _ _ c) (keyc _ _ _ c')⟩
    · rcases get_set e with ⟨_, e2, _⟩ | ⟨_, g⟩
      · cases e2
      · obtain ⟨v, h1, h2⟩ := s.val a d g
        exact ⟨v, h1, h2.mono f.ff⟩
    · rcases get_set e with ⟨e1, e2, _⟩ | ⟨e1, g⟩
      · subst e1
        cases e2
        obtain ⟨p, h1, h2⟩ := sz.cel i .io es (by rw [zr]; exact List.getElem?_set_self lio)
        rw [zs, List.getElem?_map, hvi] at h1
        cases h1
        exact ⟨q, hs, h2⟩
      · obtain ⟨p, h1, ws, h2, h3, h4⟩ := s.cel a k gs g
        have ne : p ≠ q := fun z => e1 (s.dis j a kk k q cely ⟨⟨gs, g⟩, by rw [← z]; exact h1⟩)
        refine ⟨p, h1, ws, h2.mono f.ff, f.hp p _ h3 (fun b _ k' c => ne (celx b k' p c).2.2), ?_⟩
        show z.F p = none
        cases w : z.F p with
        | none => rfl
        | some o =>
          rcases f.nw p o w with ⟨u, g2⟩ | g2 | ⟨b, g2⟩
          · have g3 : y.F p = some u := g2
            rw [h4] at g3; cases g3
          · have g3 : y.H p = none := g2
            rw [h3] at g3; cases g3
          · exact (ne (celx b _ p g2).2.2).elim
theorem ev_callW {np i : Nat} {fr : Bool} {ta : TA} {fa : M (List Arg)} {β : Type} {k : D → Option β} {Qf : β → Cf → Prop} {x : Cf} {Q : VK} (ea : EvA X W T ta fa) (s : RSt X.K x) (p : Post X.K X.mg T W x (callW np i T F fa β k x.r) Qf)
    (fin : ∀ y z d b, Fr T x y → RSt X.K y → y.s = x.s → z.s = y.s → k d = some b → RSt X.K z → Fr T y z → (∀ i k p, CelAt z i k p → CelAt y i k p) → Qf b z → ∀ v, (∃ x' z' : Cf, x'.H = y.H ∧ z'.H = z.H ∧ z'.F = z.F ∧ RetR X.K fr x' z' v d) → Q v z.H) :
    tCallSD (SpF X.K X.mg (some i) fr np F) [] (WE W) ta x.s x.H Q := by
  refine ea.bind s p fun as y f1 s1 e1 vs hv p1 => ?_
  rw [List.append_nil]
  cases q0 : splitA as with
  | none => simp only [q0] at p1; exact p1.elim
  | some t =>
    obtain ⟨pre, j, post⟩ := t
    simp only [q0] at p1
    by_cases c : decide (as.length = np ∧ pre.length = i ∧ j ∈ T) = true
    case neg => rw [if_neg c] at p1; exact p1.elim
    rw [if_pos c] at p1
    obtain ⟨c1, c2, c3⟩ := of_decide_eq_true c
    obtain ⟨vs1, v0, vs2, rfl, r1, r2, hj⟩ := splitA_rep hv q0
    cases q1 : y.r[j]? with
    | none => simp only [q1] at p1; exact p1.elim
    | some en =>
      simp only [q1] at p1
      cases en with
      | no => exact p1.elim
      | val d => exact p1.elim
      | cel kk ds =>
        simp only at p1
        obtain ⟨q, h1, us, h2, h3, h4⟩ := s1.cel j kk ds q1
        rw [hj] at h1
        cases h1
        have lv : (vs1 ++ V.ref q :: vs2).length = np := by
          have : ∀ {vs : List V} {as : List Arg}, ArgsR X.K y vs as → vs.length = as.length := fun h => by
            induction h with
            | nil => rfl
            | cons _ _ ih => exact congrArg (· + 1) ih
          rw [this hv]; exact c1
        have hvi : (vs1 ++ V.ref q :: vs2)[i]? = some (.ref q) := by
          rw [← c2, ← r1.length, List.getElem?_append_right (Nat.le_refl _), Nat.sub_self]; rfl
        have celx : ∀ a k p, CelAt ⟨y.F, y.H, (vs1 ++ V.ref q :: vs2).map some, ioArgs pre ds post⟩ a k p → some i = some a ∧ k = .io := by
          rintro a k p ⟨⟨gs, g1⟩, g2⟩
          rcases ioArgs_get g1 with ⟨d, _, e, _⟩ | ⟨e1, e2⟩ | ⟨b, d, _, _, e⟩
          · cases e
          · cases e2
            exact ⟨by rw [e1, c2], rfl⟩
          · cases e
        have sx : RSt X.K ⟨y.F, y.H, (vs1 ++ V.ref q :: vs2).map some, ioArgs pre ds post⟩ := by
          refine ⟨s1.sub, ?_, fun a d h => ?_, fun a k gs h => ?_, fun a b k l p cc cc' => ?_⟩
          · show ((vs1 ++ V.ref q :: vs2).map some).length = (ioArgs pre ds post).length
            unfold ioArgs valsOf
            simp [r1.length, r2.length]
          · rcases ioArgs_get h with ⟨d', g1, e, g2⟩ | ⟨_, e2⟩ | ⟨b, d', g0, g1, e⟩
            · cases e
              obtain ⟨v, g3, g4⟩ := r1.get g1
              refine ⟨v, ?_, g4⟩
              show ((vs1 ++ V.ref q :: vs2).map some)[a]? = _
              rw [List.getElem?_map, List.getElem?_append_left (by rw [r1.length]; exact g2), g3]; rfl
            · cases e2
            · cases e
              obtain ⟨v, g3, g4⟩ := r2.get g1
              refine ⟨v, ?_, g4⟩
              show ((vs1 ++ V.ref q :: vs2).map some)[a]? = _
              rw [List.getElem?_map, g0, List.getElem?_append_right (by rw [r1.length]; omega), r1.length, show pre.length + 1 + b - pre.length = b + 1 by omega]
              show ((vs2[b]?).map some) = _
              rw [g3]; rfl
          · rcases ioArgs_get h with ⟨d', _, e, _⟩ | ⟨e1, e2⟩ | ⟨b, d', _, _, e⟩
            · cases e
            · cases e2
              refine ⟨q, ?_, us, h2, h3, h4⟩
              show ((vs1 ++ V.ref q :: vs2).map some)[a]? = _
              rw [List.getElem?_map, e1, c2, hvi]; rfl
            · cases e
          · have e1 := (celx a k p cc).1
            have e2 := (celx b l p cc').1
            have e3 := e1.symm.trans e2
            exact Option.some.inj e3
        refine ⟨lv, ⟨y.F, y.H, (vs1 ++ V.ref q :: vs2).map some, ioArgs pre ds post⟩, rfl, rfl, sx, celx, ?_⟩
        show PostF X.K X.mg (some i) fr _ (F (ioArgs pre ds post)) Q _
        cases q2 : F (ioArgs pre ds post) with
        | bad => simp only [q2] at p1; exact p1.elim
        | exc cn pl o =>
          match o, q2 with
          | [.cel .io es], q2 =>
            simp only [q2] at p1
            intro z cls dx zs zr fz sz w
            obtain ⟨a1, a2, a3⟩ := io_back s1 c3 q1 hj h3 h4 c2 hvi fz sz zs zr
            have := p1 ⟨z.F, z.H, y.s, y.r.set j (.cel kk es)⟩ cls dx rfl a1 a2 w
            rw [show (⟨z.F, z.H, y.s, y.r.set j (.cel kk es)⟩ : Cf).s = x.s from e1] at this
            exact this
          | [], q2 => simp only [q2] at p1; exact p1.elim
          | [.no], q2 => simp only [q2] at p1; exact p1.elim
          | [.val _], q2 => simp only [q2] at p1; exact p1.elim
          | [.cel .own _], q2 => simp only [q2] at p1; exact p1.elim
          | _ :: _ :: _, q2 => simp only [q2] at p1; exact p1.elim
        | ok d o =>
          match o, q2 with
          | [.cel .io es], q2 =>
            simp only [q2] at p1
            cases q3 : k d with
            | none => simp only [q3] at p1; exact p1.elim
            | some b =>
              simp only [q3] at p1
              intro z zs zr fz sz v hv2
              obtain ⟨a1, a2, a3⟩ := io_back s1 c3 q1 hj h3 h4 c2 hvi fz sz zs zr
              exact fin y ⟨z.F, z.H, y.s, y.r.set j (.cel kk es)⟩ d b f1 s1 e1 rfl q3 a2 a1 a3 (p1 _ rfl a1 a2) v ⟨_, z, rfl, rfl, rfl, hv2⟩
          | [], q2 => simp only [q2] at p1; exact p1.elim
          | [.no], q2 => simp only [q2] at p1; exact p1.elim
          | [.val _], q2 => simp only [q2] at p1; exact p1.elim
          | [.cel .own _], q2 => simp only [q2] at p1; exact p1.elim
          | _ :: _ :: _, q2 => simp only [q2] at p1; exact p1.elim
theorem ev_callI {np i : Nat} {ta : TA} {fa : M (List Arg)} (ea : EvA X W T ta fa) : EvE X W T (tCallSD (SpF X.K X.mg (some i) false np F) [] (WE W) ta) (callI np i T F fa) := by
  intro x Q s p
  refine ev_callW ea s p fun y z d b f1 s1 e1 e2 hk sz fz hcc q v hr => ?_
  cases hk
  obtain ⟨x', z', g1, g2, g3, h⟩ := hr
  have h' : Rep X.K z'.F v d := h
  rw [g3] at h'
  exact q (e2.trans e1) v h'
theorem ev_callIL {np i : Nat} {ta : TA} {fa : M (List Arg)} (ea : EvA X W T ta fa) : EvL X W T (tCallSD (SpF X.K X.mg (some i) true np F) [] (WE W) ta) (callIL np i T F fa) := by
  intro x Q s p
  refine ev_callW ea s p fun y z d b f1 s1 e1 e2 hk sz fz hcc q v hr => ?_
  obtain ⟨x', z', g1, g2, g3, p', es, rfl, rfl, us, ⟨h1, h2, h3⟩, h4⟩ := hr
  cases hk
  rw [g1] at h4
  exact q (e2.trans e1) p' us ⟨by rw [← g2]; exact h1, by rw [← g3]; exact h2, by rw [← g3]; exact h3⟩ (f1.dm p' h4) fun i k c => not_cel s1 h4 i k (hcc i k p' c)
variable {f0 : Addr}
theorem se_callI {np : Nat} {i : Nat} (G : DefOk X.prog X.w X.K X.mg X.base x st ps k (some i) false F) (hr : Room k X.A) (tk : Takes X W) {fa : M (List Arg)} (ha : SA X W T (e :: es) fa) (hg : Gl X x := by rfl) (hdb : (x == ("__debug__" : Str)) = false := by decide)
    (he : starEach (e :: es) X.env = (false, eval e X.env) :: starEach es X.env := by rfl) (hpl : (backTo pos (starEach es X.env)).any (·.1) = false := by rfl) (hn : ps.length = np := by rfl) : SE X W T (.Call (.Name x p) (e :: es) [] pos) (callI np i T F fa) := by
  subst hn
  obtain ⟨f, fd, hm, hk, _, FO, hb⟩ := G.ex
  obtain ⟨ta, pa, ea⟩ := ha.ex
  exact ⟨_, pe_callSD FO hr hg hm hk hb .nil (fun σ => passAt tk σ) pa hdb he hpl, ev_callI ea⟩
theorem el_callI {np : Nat} {i : Nat} (G : DefOk X.prog X.w X.K X.mg X.base x st ps k (some i) true F) (hr : Room k X.A) (tk : Takes X W) {fa : M (List Arg)} (ha : SA X W T (e :: es) fa) (hg : Gl X x := by rfl) (hdb : (x == ("__debug__" : Str)) = false := by decide)
    (he : starEach (e :: es) X.env = (false, eval e X.env) :: starEach es X.env := by rfl) (hpl : (backTo pos (starEach es X.env)).any (·.1) = false := by rfl) (hn : ps.length = np := by rfl) : SL X W T (.Call (.Name x p) (e :: es) [] pos) (callIL np i T F fa) := by
  subst hn
  obtain ⟨f, fd, hm, hk, _, FO, hb⟩ := G.ex
  obtain ⟨ta, pa, ea⟩ := ha.ex
  exact ⟨_, pe_callSD FO hr hg hm hk hb .nil (fun σ => passAt tk σ) pa hdb he hpl, ev_callIL ea⟩
/-! ### a call by names alone -/
def EvK (X : Cx) (W : WX) (T : List Nat) (ta : TA) (f : M (List D)) : Prop := EvD X W T ta f
structure SK (X : Cx) (W : WX) (T : List Nat) (kws : List Keyword) (f : M (List D)) : Prop where
  ex : ∃ ta, PK X kws ta ∧ EvD X W T ta f
theorem sk_nil : SK X W T [] (mP []) := ⟨_, pk_nil, fun x Q s p => p x rfl (Fr.refl T x) s rfl [] .nil⟩
theorem sk_cons {nm : Option Str} {kpos : Pos} {kws : List Keyword} {fa : M D} {fr : M (List D)} (ha : SE X W T e fa) (hr : SK X W T kws fr) : SK X W T (⟨nm, e, kpos⟩ :: kws) (dCons fa fr) := by
  obtain ⟨ta, pa, ea⟩ := ha.ex
  obtain ⟨tr, pr, er⟩ := hr.ex
  refine ⟨_, pk_cons pa pr, fun x Q s p => ?_⟩
  refine ea.bind s p fun d y f1 s1 e1 v hv p1 => ?_
  show tr x.s y.H _
  rw [← e1]
  exact er.bind s1 p1 fun ds z f2 s2 e2 vs hvs p2 => p2 z rfl (Fr.refl T z) s2 (e2.trans e1) (v :: vs) (.cons (hv.mono f2.ff) hvs)
/-- the values in the parameters' order: ix tells for each parameter which keyword is its -/
def ordL {α : Type} (ix : List Nat) (l : List α) : List α := ix.filterMap fun i => l[i]?
def tCallKw (sp : Sp) (m : Nat) (ix : List Nat) (E : L2.St → XK) (tk : TA) : TE := fun σ H Q => tk σ H fun zs H2 => zs.length = m ∧ sp (ordL ix zs) H2 Q (E σ)
theorem ordL_vals {ix : List Nat} {vs : List V} {us : List Value} (r : Vals vs us) : Vals (ordL ix vs) (ordL ix us) := by
  unfold ordL
  induction ix with
  | nil => exact .nil
  | cons i ix ih =>
    rw [List.filterMap_cons, List.filterMap_cons]
    cases q : vs[i]? with
    | none => rw [r.none_of q]; exact ih
    | some v =>
      obtain ⟨u, h1, h2⟩ := r.get q
      rw [h1]
      exact .cons h2 ih
theorem ordL_rep {F : Hp} {ix : List Nat} {vs : List V} {ds : List D} (r : RepL K F vs ds) : RepL K F (ordL ix vs) (ordL ix ds) := by
  unfold ordL
  induction ix with
  | nil => exact .nil
  | cons i ix ih =>
    rw [List.filterMap_cons, List.filterMap_cons]
    cases q : ds[i]? with
    | none =>
      have : vs[i]? = none := by
        rw [List.getElem?_eq_none_iff] at q ⊢
        rw [r.length]; exact q
      rw [this]; exact ih
    | some d =>
      obtain ⟨v, h1, h2⟩ := r.get q
      rw [h1]
      exact .cons h2 ih
structure KwB (fd : FuncData) (ps ks : List Str) (ix : List Nat) : Prop where
  to : ∀ (s : Shared) (ws : List Value), ws.length = ks.length → BindsTo s fd ⟨[], ks.zip ws⟩ (ps.zip (ordL ix ws))
theorem pe_callKw {CX : CXT} {f : Addr} {fd : FuncData} {sp : Sp} {kws : List Keyword} {ks : List Str} {ix : List Nat} {tk : TA} {E : L2.St → XK} (FO : FnOk X.prog X.w X.K X.mg X.base CX k f fd ps sp) (hr : Room k X.A) (hg : Gl X x) (hm : X.mg x = some (.ref f)) (hk : PySem.W.keepIn X.K (.ref f) = true)
    (hb : KwB fd ps ks ix) (hx : ∀ σ, PassesAt CX X σ (E σ)) (hkw : PK X kws tk) (hall : (backToKw pos (keywordEach kws X.env)).all (·.1.isSome) = true) (hks : (backToKw pos (keywordEach kws X.env)).filterMap (·.1) = ks)
    (hdb : (x == ("__debug__" : Str)) = false) (hpl : ((backTo pos (starEach [] X.env)).any (·.1) || (backToKw pos (keywordEach kws X.env)).any (·.1.isNone)) = false) : PE X (.Call (.Name x p) [] kws pos) (tCallKw sp ks.length ix E tk) := by
  constructor
  intro pins s σ H Q I h
  refine wpAny_Call_Name_kw (ld_glob I hg hm ?_ hdb)
  refine PySem.W.callWith_KW0 (h₀ := X.base) I.ok.mod.kin hk hall ?_ hpl
  refine thn (hkw.run pos pins s σ H _ I h) fun ws s2 q => ?_
  obtain ⟨zs, H2, I2, rz, l1, q2⟩ := q
  refine ⟨I2.kIn, ?_⟩
  rw [hks]
  refine wpAny_call (codeAny_mono (FO.run X.A X.stack s2 H2 ⟨[] ++ [], ks.zip ws⟩ (ordL ix ws) (ordL ix zs) Q (E σ) hr I2.env0 (hb.to s2 ws (rz.length.symm.trans l1)) (ordL_vals rz) q2) fun r s' hq => ?_)
  cases r with
  | error e => exact hx σ pins H2 s2 e s' I2 hq
  | ok fl =>
    cases fl with
    | ret u => exact I2.after hq
    | next => exact hq.elim
    | brk => exact hq.elim
    | cont => exact hq.elim
/-- how a def of the text binds its names -/
def BindKw (x : Str) (st : Stmt) (ps ks : List Str) (ix : List Nat) : Prop := ∀ (kV doc pm : Value) (an : Option Addr) (cdv ct : Value) (ws : List Value), ws.length = ks.length →
  bindArgs (PySem.W.fnOf x x (defArgs st) (defBody st) (defScope st) .none kV doc pm an cdv ct) ⟨[], ks.zip ws⟩ = pure (ps.zip (ordL ix ws))
def callKw (np m : Nat) (ix : List Nat) (F : List Ent → R D) (a : M (List D)) : M D := mB a fun ds r => if decide (ds.length = m ∧ (ordL ix ds).length = np) then (match F (valsOf (ordL ix ds)) with
  | .ok d _ => .ok d r
  | .exc c pl _ => .exc c pl r
  | .bad => .bad) else .bad
theorem se_callKw {np nk : Nat} {kws : List Keyword} {ks : List Str} (ix : List Nat) (G : DefOk X.prog X.w X.K X.mg X.base x st ps k none false F) (hr : Room k X.A) (tk : Takes X W) {fa : M (List D)} (ha : SK X W T kws fa) (hb : BindKw x st ps ks ix) (hg : Gl X x := by rfl)
    (hall : (backToKw pos (keywordEach kws X.env)).all (·.1.isSome) = true := by rfl) (hks : (backToKw pos (keywordEach kws X.env)).filterMap (·.1) = ks := by rfl) (hdb : (x == ("__debug__" : Str)) = false := by decide)
    (hpl : ((backTo pos (starEach [] X.env)).any (·.1) || (backToKw pos (keywordEach kws X.env)).any (·.1.isNone)) = false := by rfl) (hn : ps.length = np := by rfl) (hm : ks.length = nk := by rfl) : SE X W T (.Call (.Name x p) [] kws pos) (callKw np nk ix F fa) := by
  subst hn hm
  obtain ⟨f, fd, hm, hk, Fn, FO, _⟩ := G.ex
  obtain ⟨ta, pa, ea⟩ := ha.ex
  have kb : KwB fd ps ks ix := by
    obtain ⟨oc, od, kV, doc, pm, an, cdv, ct, osl, rfl, lk, hcd⟩ := Fn.ex
    exact ⟨fun s ws hl => .of_eq (hb kV doc pm an cdv ct ws hl)⟩
  refine ⟨_, pe_callKw FO hr hg hm hk kb (fun σ => passAt tk σ) pa hall hks hdb hpl, fun x Q s p => ?_⟩
  refine ea.bind s p fun ds y f1 s1 e1 vs hv p1 => ?_
  by_cases c : decide (ds.length = ks.length ∧ (ordL ix ds).length = ps.length) = true
  · rw [if_pos c] at p1
    obtain ⟨c1, c2⟩ := of_decide_eq_true c
    refine ⟨by rw [hv.length]; exact c1, call_run s1 (ordL_rep hv) c2 (fun d o q z ex v hv' => ?_) (fun c pl o q z cls dx ex w => ?_) (fun q => ?_)⟩
    · rw [q] at p1; exact Post.here p1 ex s1 (ex.s.trans e1) v hv'
    · rw [q] at p1
      have := p1 z cls dx ex.r (ex.fr T) (ex.rst s1) w
      rw [ex.s, e1] at this
      exact this
    · rw [q] at p1; exact p1
  · rw [if_neg c] at p1
    exact p1.elim
end
end FL
namespace FL
open PySem PySem.Spec L2 HT
open PyProof.Rows (IsTup)
/-! ### read from behind -/
section
variable {prog : Program} {w : World} {A : Around} {E : Value → Shared → Prop} {s : Shared}
theorem behind_sl {sl : Addr} {vl vu vs : Value} {n : Nat} {Q : Int × Int × Nat → Shared → Prop} (hs : s.heap.IsSliceOf sl vl vu vs) (pl : IsPart vl none) (pu : IsPart vu none) (ps : IsPart vs (some (-1))) (h : Q ((n : Int) - 1, -1, n) s) :
    wpAny (model prog w) A (Builtin.Slice.sliceApplied (.ref sl) (pure (n : Int))) Q E s := by
  obtain ⟨os, hos, hcs, hds⟩ := id hs
  unfold Builtin.Slice.sliceApplied Builtin.Slice.sliceFields
  refine wpAny_bind (wpAny_bind (wpAny_field hos hds (x := vl) rfl (wpAny_bind (wpAny_field hos hds (x := vu) rfl (wpAny_bind (wpAny_field hos hds (x := vs) rfl (wpAny_pure ?_)))))))
  refine wpAny_bind (slicePart_ ps ?_)
  show wpAny _ _ (if ((-1 : Int) == 0) = true then _ else _) _ _ s
  rw [if_neg (by decide)]
  refine wpAny_bind (slicePart_ pl (wpAny_bind (slicePart_ pu (wpAny_bind (wpAny_pure ?_)))))
  have e : Builtin.Slice.slicePlaces ((n : Int) - 1) (-1) (-1) = n := by
    unfold Builtin.Slice.slicePlaces
    rw [if_neg (by decide)]
    by_cases c : (n : Int) - 1 > -1
    · rw [if_pos c, show (- -1 : Int) = 1 from rfl, Int.ediv_one]; omega
    · rw [if_neg c]; omega
  show wpAny _ _ (pure ((n : Int) - 1, (-1 : Int), Builtin.Slice.slicePlaces ((n : Int) - 1) (-1) (-1))) _ _ s
  rw [e]
  exact wpAny_pure h
theorem behind_pick (items : Array Value) : ((List.range items.size).filterMap fun (m : Nat) => items[(((items.size : Int) - 1) + (m : Int) * (-1)).toNat]?).toArray = items.toList.reverse.toArray := by
  have e : ((List.range items.size).filterMap fun (m : Nat) => items[(((items.size : Int) - 1) + (m : Int) * (-1)).toNat]?) = ((List.range items.size).map fun m => items.size - 1 - m).filterMap (items[·]?) := by
    rw [List.filterMap_map]
    congr 1
    funext m
    show items[_]? = items[items.size - 1 - m]?
    by_cases c : m < items.size
    · rw [show (((items.size : Int) - 1) + (m : Int) * (-1)).toNat = items.size - 1 - m by omega]
    · rw [show (((items.size : Int) - 1) + (m : Int) * (-1)).toNat = 0 by omega, show items.size - 1 - m = 0 by omega]
  rw [e, PySem.W.krv_range, List.filterMap_reverse, PySem.W.krv_all]
theorem behind_tup {t sl : Addr} {items : Array Value} {vl vu vs : Value} {Q : Value → Shared → Prop} (ht : IsTup s.heap t items) (hs : s.heap.IsSliceOf sl vl vu vs) (pl : IsPart vl none) (pu : IsPart vu none) (ps : IsPart vs (some (-1))) (hz : items.size ≤ sizeLine)
    (h : Q (.ref s.heap.objs.size) { s with heap := s.heap.push { cls := .type "tuple", data := .seq items.toList.reverse.toArray } }) : wpAny (model prog w) A (getItem (.ref t) (.ref sl)) Q E s := by
  obtain ⟨os, hos, hcs, hds⟩ := id hs
  have hTs : s.TypeIs (.ref sl) "slice" := ⟨os, hos, hcs⟩
  have hsz : sizeOk (.seq items.toList.reverse.toArray) := by
    show items.toList.reverse.toArray.size ≤ sizeLine
    simpa using hz
  unfold getItem
  try with_reducible refine wpAny_holding ?_
  first | refine wpAny_bind (wpAny_pure ?_) | skip
  refine wpAny_bind (wpAny_sequenceKey ht.typeIs (by decide) ?_)
  refine wpAny_bind (wpAny_callSpecial?_slot (name := Str.ofString "__getitem__") ht.typeIs PyProof.Rows.slot_tuple_getitem (wpAny_call_entry PyProof.Rows.slot_tuple_getitem ht.typeIs PyProof.Rows.entry_tuple_getitem ?_ (PyProof.Rows.args_tuple_getitem _ _)))
  show wpAny _ _ (Builtin.Tuple.tupleItemsOf (.ref t) >>= _) _ _ s
  refine wpAny_bind (PyProof.Rows.tupleItemsOf_ ht ?_)
  refine wpAny_bind (wpAny_typeOf hTs ?_)
  rw [if_pos (by decide)]
  refine wpAny_bind (behind_sl hs pl pu ps ?_)
  have hno : ¬ ((((items.size : Int) - 1 == 0) && ((-1 : Int) == 1) && (items.size == items.size)) = true) := by
    intro q
    rw [Bool.and_eq_true, Bool.and_eq_true] at q
    exact absurd q.1.2 (by decide)
  show wpAny _ _ (if (((items.size : Int) - 1 == 0) && ((-1 : Int) == 1) && (items.size == items.size)) = true then _ else _) _ _ s
  rw [if_neg hno, behind_pick]
  first
    | exact wpAny_bind (m := Builtin.Tuple.tupleExact _) (wpAny_newObj_type (wpAny_pure ⟨_, rfl, wpAny_pure h⟩) hsz)
    | exact wpAny_bind (wpAny_bind (m := Builtin.Tuple.tupleExact _) (wpAny_newObj_type (wpAny_pure ⟨_, rfl, wpAny_pure h⟩) hsz))
    | exact wpAny_bind (m := Builtin.Tuple.tupleExact _) (wpAny_newObj_type (wpAny_bind (wpAny_pure (wpAny_pure ⟨_, rfl, wpAny_pure h⟩))) hsz)
    | exact wpAny_bind (wpAny_bind (m := Builtin.Tuple.tupleExact _) (wpAny_newObj_type (wpAny_pure (wpAny_pure ⟨_, rfl, wpAny_pure h⟩)) hsz))
end
theorem push_keeps (h : Heap) (o : Obj) : ∀ b ob, h.get? b = some ob → (h.push o).get? b = some ob := fun b ob q => Heap.get?_push_of_some _ q
section
variable {X : Cx} {W : WX} {T : List Nat} {K : PySem.W.Frag}
def tRevA (K : PySem.W.Frag) (te : TE) : TE := fun σ H Q => te σ H fun x H1 => ∃ a xs, x = .ref a ∧ ((SqL K H1 a xs ∧ ∀ p, H1 p = none → Q (.ref p) (upd H1 p (.lst xs.reverse))) ∨ (SqT K H1 a xs ∧ ∀ p, H1 p = none → Q (.ref p) (upd H1 p (.tup xs.reverse))))
theorem pe_revSeq {e : Expr} {te : TE} {k : Nat} {p1 p2 p3 pos : Pos} (he : PE X e te) : PE X (.Subscript e (.Slice none none (some (.UnaryOp .USub (.Constant (.int 1) k p1) p2)) p3) pos) (tRevA X.K te) := by
  constructor
  intro pins s σ H Q I h
  refine PyProof.Rows.Subscript_ (thn (he.run pins s σ H _ I h) fun v s1 w => ?_)
  obtain ⟨x, H1, I1, r1, a, xs, ex, q⟩ := w
  subst ex
  cases r1
  have hst : PO X (some (.UnaryOp .USub (.Constant (.int 1) k p1) p2)) (tPart (tUn (rU fun i => .int (-i)) (tC (.int 1)))) := po_some (pe_un un_neg pe_int)
  refine wpAny_Slice (thn (po_none.run pins s1 σ H1 (fun o H2 => o = none ∧ H2 = H1) I1 ⟨rfl, rfl⟩) fun vl s2 w => ?_)
  obtain ⟨l, H2, I2, pl, el, e2⟩ := w
  subst el e2
  refine thn (po_none.run pins s2 σ H2 (fun o H3 => o = none ∧ H3 = H2) I2 ⟨rfl, rfl⟩) fun vu s3 w => ?_
  obtain ⟨u, H3, I3, pu, eu, e3⟩ := w
  subst eu e3
  refine thn (hst.run pins s3 σ H3 (fun o H4 => o = some (-1) ∧ H4 = H3) I3 ⟨1, rfl, -1, rfl, rfl, rfl⟩) fun vs s4 w => ?_
  obtain ⟨o, H4, I4, ps, eo, e4⟩ := w
  subst eo e4
  have I5 : Inv X pins σ H4 { s4 with heap := s4.heap.push { cls := .type "slice", data := .fields #[vl, vu, vs] } } := I4.kept (t' := s4.toks) fun b ob q => Heap.get?_push_of_some _ q
  show wpAny (model X.prog X.w) X.A (PyProof.Rows.subscriptTail e (.Slice none none (some (.UnaryOp .USub (.Constant (.int 1) k p1) p2)) p3) (.ref a) (.ref s4.heap.objs.size)) (EP X pins σ Q) X.xe { s4 with heap := s4.heap.push { cls := .type "slice", data := .fields #[vl, vu, vs] } }
  rcases q with ⟨hx, q⟩ | ⟨hx, q⟩
  · obtain ⟨its, r, ht, hz⟩ := I5.list hx
    have hlen := r.length
    refine PyProof.Rows.tail_any (ops := [.ref a, .ref s4.heap.objs.size]) ht.isList.typeIs (PySem.slot_list_getitem.lookup) ?_ (by with_unfolding_all rfl)
    refine wpAny_getItem_list_slice ht.isList (Heap.IsSliceOf.new _ vl vu vs) pl pu ps (by decide) ?_ (by rw [List.size_toArray]; omega)
    rw [PySem.W.krv_pick]
    refine ⟨.ref _, _, I5.laid (o := .lst xs.reverse) (t' := s4.toks) (push_keeps _ _) (Nat.le_refl _) ?_, rfl, q _ (I5.hok.fresh (Nat.le_refl _))⟩
    exact ⟨by rw [List.length_reverse]; exact hz, _, 0, r.reverse, Heap.get?_push_size _ rfl⟩
  · obtain ⟨its, r, ht, hz⟩ := I5.tuple hx
    have hlen := r.length
    refine PyProof.Rows.tail_any (ops := [.ref a, .ref s4.heap.objs.size]) ht.typeIs (PyProof.Rows.slot_tuple_getitem.lookup) ?_ (by with_unfolding_all rfl)
    refine behind_tup ht (Heap.IsSliceOf.new _ vl vu vs) pl pu ps (by rw [List.size_toArray]; omega) ?_
    refine ⟨.ref _, _, I5.laid (o := .tup xs.reverse) (t' := s4.toks) (push_keeps _ _) (Nat.le_refl _) ?_, rfl, q _ (I5.hok.fresh (Nat.le_refl _))⟩
    exact ⟨by rw [List.length_reverse]; exact hz, _, r.reverse, ⟨_, Heap.get?_push_size _ rfl, rfl, _, rfl⟩⟩
def revD : D → Option D
  | .tup ds => some (.tup ds.reverse)
  | .lst ds => some (.lst ds.reverse)
  | .scr ds => some (.lst ds.reverse)
  | _ => none
theorem se_rev {e : Expr} {f : M D} {k : Nat} {p1 p2 p3 pos : Pos} (he : SE X W T e f) : SE X W T (.Subscript e (.Slice none none (some (.UnaryOp .USub (.Constant (.int 1) k p1) p2)) p3) pos) (x1 revD f) := by
  obtain ⟨te, pe, ev⟩ := he.ex
  refine ⟨_, pe_revSeq pe, fun x Q s p => ?_⟩
  refine ev.bind s p fun d y f1 s1 e1 v hv p1 => ?_
  cases q : revD d with
  | none => rw [q] at p1; exact p1.elim
  | some z =>
    rw [q] at p1
    cases hv <;> try (simp [revD] at q; done)
    · rename_i h r
      cases q
      refine ⟨_, _, rfl, .inr ⟨sameT s1.sub h, fun l hl => ?_⟩⟩
      obtain ⟨a, b⟩ := ext_tup s1 hl r.rev
      exact Post.here p1 a s1 (a.s.trans e1) _ b
    · rename_i h r
      cases q
      refine ⟨_, _, rfl, .inl ⟨SqL.of (s1.sub _ _ h), fun l hl => ?_⟩⟩
      obtain ⟨a, b⟩ := ext_lst s1 hl r.rev
      exact Post.here p1 a s1 (a.s.trans e1) _ b
    · rename_i h r
      cases q
      refine ⟨_, _, rfl, .inl ⟨s1.sub.seq h, fun l hl => ?_⟩⟩
      obtain ⟨a, b⟩ := ext_lst s1 hl r.rev
      exact Post.here p1 a s1 (a.s.trans e1) _ b
/-! ### a call of a parameter that holds a def -/
/-- slot i holds the def that the module names x -/
def isDef (i : Nat) (x : Str) : M Unit := fun r => match r[i]? with
  | some (.val (.dfn y)) => if y = x then .ok () r else .bad
  | _ => .bad
def tCallLS (i : Nat) (f : Addr) (sp : Sp) (E : L2.St → XK) (t : TA) : TE := fun σ H Q => σ[i]? = some (some (.ref f)) ∧ t σ H fun vs H1 => sp vs H1 Q (E σ)
theorem pe_callLS {CX : CXT} {i k : Nat} {f : Addr} {fd : FuncData} {ps : List Str} {sp : Sp} {E : L2.St → XK} {x : Str} {p pos : Pos} {e : Expr} {es : List Expr} {t : TA} (F : FnOk X.prog X.w X.K X.mg X.base CX k f fd ps sp) (hr : Room k X.A) (hN : X.N[i]? = some x) (hv : Vis X.env.scope x) (hk : PySem.W.keepIn X.K (.ref f) = true)
    (hb : Binds X.K fd ps []) (hx : ∀ σ, PassesAt CX X σ (E σ)) (ha : PA X (e :: es) t) (hdb : (x == ("__debug__" : Str)) = false) (hcd : (x == ("__classdict__" : Str)) = false)
    (he : starEach (e :: es) X.env = (false, eval e X.env) :: starEach es X.env) (hpl : (backTo pos (starEach es X.env)).any (·.1) = false) : PE X (.Call (.Name x p) (e :: es) [] pos) (tCallLS i f sp E t) := by
  constructor
  intro pins s σ H Q I h
  obtain ⟨h0, h⟩ := h
  have run := (pe_var (X := X) (i := i) (pos := p) hN hv hdb hcd).run pins s σ H (fun v H' => v = .ref f ∧ H' = H) I ⟨_, h0, rfl, rfl⟩
  refine wpAny_Call_Name_kw (thn run fun u s1 w => ?_)
  obtain ⟨v, H1, I1, r, rfl, rfl⟩ := w
  cases r
  refine PySem.W.callWith_K (h₀ := X.base) I1.ok.mod.kin hk (thn (ha.run pos pins s1 σ H1 _ I1 h) fun us s2 w => ?_) he hpl
  obtain ⟨vs, H2, I2, r2, q⟩ := w
  refine ⟨I2.kIn, ?_⟩
  exact run_fnSD (E := E) F hr hb .nil (hx σ) I2 r2 (by rw [List.append_nil]; exact q)
/-- the address of the def that the module names x -/
def callP (i : Nat) (v : Str) (np : Nat) (F : List Ent → R D) (m : M (List D)) : M D := mB (isDef i v) fun _ => callD np F m
theorem se_callP {np : Nat} (i : Nat) {k : Nat} {x xf : Str} {st : Stmt} {ps : List Str} {F : List Ent → R D} {f : Addr} {p pos : Pos} {e : Expr} {es : List Expr} {fa : M (List D)} (G : DefOk X.prog X.w X.K X.mg X.base xf st ps k none false F) (hf : X.mg xf = some (.ref f)) (hns : PySem.W.nsIn X.K mainGlobals xf = some (some (.ref f))) (hr : Room k X.A) (tk : Takes X W) (ha : SD X W T (e :: es) fa)
    (hN : X.N[i]? = some x := by rfl) (hv : Vis X.env.scope x := by first | exact Or.inl rfl | exact Or.inr (Or.inl rfl) | exact Or.inr (Or.inr rfl)) (hdb : (x == ("__debug__" : Str)) = false := by decide) (hcd : (x == ("__classdict__" : Str)) = false := by decide)
    (he : starEach (e :: es) X.env = (false, eval e X.env) :: starEach es X.env := by rfl) (hpl : (backTo pos (starEach es X.env)).any (·.1) = false := by rfl) (hn : ps.length = np := by rfl) : SE X W T (.Call (.Name x p) (e :: es) [] pos) (callP i xf np F fa) := by
  subst hn
  obtain ⟨f', fd, hm, hk, _, FO, hb⟩ := G.ex
  have ef : f' = f := by rw [hf] at hm; cases hm; rfl
  subst ef
  obtain ⟨ta, pa, ea⟩ := ha.ex
  refine ⟨_, pe_callLS (E := WE W) FO hr hN hv hk hb (fun σ => passAt tk σ) pa hdb hcd he hpl, fun x Q s p => ?_⟩
  unfold callP isDef mB at p
  cases q : x.r[i]? with
  | none => simp only [q] at p; exact p.elim
  | some en =>
    simp only [q] at p
    cases en with
    | no => exact p.elim
    | cel _ _ => exact p.elim
    | val d =>
      cases d <;> try exact p.elim
      rename_i w
      by_cases c : w = xf
      · subst c
        simp only [if_true] at p
        obtain ⟨v, h1, h2⟩ := s.val i _ q
        cases h2
        rename_i g hg
        rw [hns] at hg
        cases hg
        refine ⟨h1, ?_⟩
        have := ev_call (np := ps.length) (F := F) ea x Q s p
        unfold tCallSD at this
        simp only [List.append_nil] at this
        exact this
      · simp only [c, if_false] at p
        exact p.elim
/-- a def of the module as a value -/
theorem se_def {x : Str} {f : Addr} {pos : Pos} (hm : X.mg x = some (.ref f)) (hns : PySem.W.nsIn X.K mainGlobals x = some (some (.ref f))) (hg : Gl X x := by rfl) (hd : (x == ("__debug__" : Str)) = false := by decide) : SE X W T (.Name x pos) (xC (.dfn x)) :=
  ⟨_, pe_glob (v := .ref f) hg hm rfl hd, ev_const fun _ => .dfn hns⟩
end
end FL
namespace FL
open PySem PySem.Spec L2
section
variable {X : Cx} {W : WX} {T : List Nat} {K : PySem.W.Frag}
/-! ### constants of the module, {} -/
theorem se_cint {x : Str} {i : Int} {pos : Pos} (h : ∃ t, X.mg x = some (.int i t)) (hg : Gl X x := by rfl) (hd : (x == ("__debug__" : Str)) = false := by decide) : SE X W T (.Name x pos) (xC (.int i)) := by
  obtain ⟨t, h⟩ := h
  exact se_glob h (v := .int i) ⟨t, rfl⟩ (fun _ => .int i) hg hd
theorem se_cstr {x y : Str} {pos : Pos} (h : ∃ t, X.mg x = some (.str y t)) (hg : Gl X x := by rfl) (hd : (x == ("__debug__" : Str)) = false := by decide) : SE X W T (.Name x pos) (xC (.str y)) := by
  obtain ⟨t, h⟩ := h
  exact se_glob h (v := .str y) ⟨t, rfl⟩ (fun _ => .str y) hg hd
theorem se_dict0 {pos : Pos} : SE X W T (.Dict [] [] pos) (xC (.dct [])) := by
  refine ⟨_, pe_dnewK, fun x Q s p => ?_⟩
  intro q hq
  exact Post.here p (Ext.new s hq) s rfl _ (.dct upd_same .nil)
/-! ### a, b = [], e: lists that are new beside values -/
inductive PIt where | val (d : D) | new (ds : List D)
inductive ItsR (K : PySem.W.Frag) (x y : Cf) : List V → List PIt → List Addr → Prop
  | nil : ItsR K x y [] [] []
  | val {v : V} {d : D} {vs : List V} {is : List PIt} {as : List Addr} : Rep K y.F v d → ItsR K x y vs is as → ItsR K x y (v :: vs) (.val d :: is) as
  | new {p : Addr} {us : List V} {ds : List D} {vs : List V} {is : List PIt} {as : List Addr} : FreshAt K y p us ds → x.H p = none → (∀ i k, ¬ CelAt y i k p) → p ∉ as → ItsR K x y vs is as → ItsR K x y (.ref p :: vs) (.new ds :: is) (p :: as)
def EvP (X : Cx) (W : WX) (T : List Nat) (ta : TA) (f : M (List PIt)) : Prop := ∀ (x : Cf) (Q : List V → Hp → Prop), RSt X.K x → Post X.K X.mg T W x (f x.r) (fun is y => y.s = x.s → ∀ vs as, ItsR X.K x y vs is as → Q vs y.H) → ta x.s x.H Q
structure SP' (X : Cx) (W : WX) (T : List Nat) (es : List Expr) (f : M (List PIt)) : Prop where
  ex : ∃ ta, PA X es ta ∧ EvP X W T ta f
def pVal (a : M D) (r : M (List PIt)) : M (List PIt) := mB a fun d => mB r fun is => mP (.val d :: is)
def pNew (a : M (List D)) (r : M (List PIt)) : M (List PIt) := mB a fun ds => mB r fun is => mP (.new ds :: is)
theorem sp_nil : SP' X W T [] (mP []) := ⟨_, pa_nil, fun x Q s p => p x rfl (Fr.refl T x) s rfl [] [] .nil⟩
theorem ItsR.back {x0 x y : Cf} (h : ∀ p, x.H p = none → x0.H p = none) {vs : List V} {is : List PIt} {as : List Addr} (r : ItsR K x y vs is as) : ItsR K x0 y vs is as := by
  induction r with
  | nil => exact .nil
  | val h1 _ ih => exact .val h1 ih
  | new h1 h2 h3 h4 _ ih => exact .new h1 (h _ h2) h3 h4 ih
theorem ItsR.fresh {x y : Cf} {vs : List V} {is : List PIt} {as : List Addr} (r : ItsR K x y vs is as) : ∀ p ∈ as, x.H p = none := by
  induction r with
  | nil => intro p h; cases h
  | val _ _ ih => exact ih
  | new _ h2 _ _ _ ih =>
    intro p h
    rcases List.mem_cons.mp h with z | z
    · rw [z]; exact h2
    · exact ih p z
theorem EvP.bind {α : Type} {te : TA} {f : M (List PIt)} {k : List PIt → M α} {x : Cf} {Q : List V → Hp → Prop} {Qf : α → Cf → Prop} (h : EvP X W T te f) (s : RSt X.K x) (p : Post X.K X.mg T W x (mB f k x.r) Qf)
    (n : ∀ is y, Fr T x y → RSt X.K y → y.s = x.s → ∀ vs as, ItsR X.K x y vs is as → Post X.K X.mg T W y (k is y.r) Qf → Q vs y.H) : te x.s x.H Q := by
  refine h x Q s ?_
  unfold mB at p
  cases e : f x.r with
  | ok d ρ =>
    simp only [e] at p
    intro y hy fr sy hs vs as hv
    rw [← hy] at p
    exact n d y fr sy hs vs as hv (p.shift fr)
  | exc c pl ρ => simp only [e] at p; exact p
  | bad => simp only [e] at p; exact p
variable {e : Expr} {es : List Expr}
theorem sp_val {fa : M D} {fr : M (List PIt)} (ha : SE X W T e fa) (hr : SP' X W T es fr) (hs : starEach (e :: es) X.env = (false, eval e X.env) :: starEach es X.env := by rfl) : SP' X W T (e :: es) (pVal fa fr) := by
  obtain ⟨ta, pa, ea⟩ := ha.ex
  obtain ⟨tr, pr, er⟩ := hr.ex
  refine ⟨_, pa_cons pa pr hs, fun x Q s p => ?_⟩
  refine ea.bind s p fun d y f1 s1 e1 v hv p1 => ?_
  show tr x.s y.H _
  rw [← e1]
  exact er.bind s1 p1 fun is z f2 s2 e2 vs as hvs p2 => p2 z rfl (Fr.refl T z) s2 (e2.trans e1) (v :: vs) as (.val (hv.mono f2.ff) (hvs.back f1.dm))
theorem sp_new {fa : M (List D)} {fr : M (List PIt)} (ha : SL X W T e fa) (hr : SP' X W T es fr) (hs : starEach (e :: es) X.env = (false, eval e X.env) :: starEach es X.env := by rfl) : SP' X W T (e :: es) (pNew fa fr) := by
  obtain ⟨ta, pa, ea⟩ := ha.ex
  obtain ⟨tr, pr, er⟩ := hr.ex
  refine ⟨_, pa_cons pa pr hs, fun x Q s p => ?_⟩
  refine ea.bind s p fun ds y f1 s1 e1 q us h1 h2 h3 p1 => ?_
  show tr x.s y.H _
  rw [← e1]
  refine er.bind s1 p1 fun is z f2 s2 e2 vs as hvs p2 => ?_
  obtain ⟨g1, g2, g3⟩ := stays f2 h1.1 h1.2.1 h3
  exact p2 z rfl (Fr.refl T z) s2 (e2.trans e1) (.ref q :: vs) (q :: as) (.new ⟨g1, g2, h1.2.2.mono f2.ff⟩ h2 g3 (fun hm => by
    have := hvs.fresh q hm
    rw [h1.1] at this; cases this) (hvs.back f1.dm))
/-- the items into the slots -/
def setIts : List Nat → List PIt → M Unit
  | [], [] => mP ()
  | i :: is, .val d :: r => mB (setv i d) fun _ => setIts is r
  | i :: is, .new ds :: r => mB (setc i .own ds) fun _ => setIts is r
  | _, _ => fun _ => .bad
def setSs (σ : L2.St) : List Nat → List V → L2.St
  | i :: is, v :: vs => setSs (σ.set i (some v)) is vs
  | _, _ => σ
theorem setIts_run {x : Cf} {α : Type} {m : M α} {Q : α → Cf → Prop} : ∀ {js : List Nat} {vs : List V} {is : List PIt} {as : List Addr} {y : Cf}, RSt X.K y → Fr T x y → ItsR X.K x y vs is as → (∀ j ∈ js, j ∈ T) →
    Post X.K X.mg T W x (mB (setIts js is) (fun _ => m) y.r) Q → ∃ z : Cf, z.s = setSs y.s js vs ∧ z.H = y.H ∧ RSt X.K z ∧ Fr T x z ∧ Post X.K X.mg T W x (m z.r) Q ∧ js.length = vs.length
  | [], _, _, _, y, s, f, .nil, hT, p => ⟨y, rfl, rfl, s, f, p, rfl⟩
  | [], _, _, _, y, s, f, .val _ _, hT, p => p.elim
  | [], _, _, _, y, s, f, .new _ _ _ _ _, hT, p => p.elim
  | j :: js, _, _, _, y, s, f, .nil, hT, p => p.elim
  | j :: js, _, _, _, y, s, f, .val (v := v) (d := d) (vs := vs) (is := is) (as := as) h r, hT, p => by
    obtain ⟨f2, s2⟩ := setv_ok (T := T) s h (hT j List.mem_cons_self)
    have p' : Post X.K X.mg T W x (mB (mB (setv j d) fun _ => setIts js is) (fun _ => m) y.r) Q := p
    unfold mB setv at p'
    by_cases c : j < y.r.length
    · simp only [c, if_true] at p'
      have r2 : ItsR X.K x ⟨y.F, y.H, y.s.set j (some v), y.r.set j (.val d)⟩ vs is as := by
        clear p p'
        induction r with
        | nil => exact .nil
        | val h1 _ ih => exact .val h1 ih
        | new h1 h2 h3 h4 _ ih => exact .new h1 h2 (fun i k c => h3 i k (setv_cel c).2) h4 ih
      obtain ⟨z, a1, a2, a3, a4, a5, a6⟩ := setIts_run (js := js) s2 (f.trans f2) r2 (fun i hi => hT i (List.mem_cons_of_mem _ hi)) p'
      exact ⟨z, a1, a2, a3, a4, a5, congrArg (· + 1) a6⟩
    · simp only [c, if_false] at p'
      exact p'.elim
  | j :: js, _, _, _, y, s, f, .new (p := q) (us := us) (ds := ds) (vs := vs) (is := is) (as := as) h1 h2 h3 h4 r, hT, p => by
    obtain ⟨key, s2⟩ := setc_ok (i := j) s h1 h3
    have hj := hT j List.mem_cons_self
    have p' : Post X.K X.mg T W x (mB (mB (setc j .own ds) fun _ => setIts js is) (fun _ => m) y.r) Q := p
    unfold mB setc at p'
    by_cases c : j < y.r.length
    · simp only [c, if_true] at p'
      have f2 : Fr T x ⟨y.F, y.H, y.s.set j (some (.ref q)), y.r.set j (.cel .own ds)⟩ := by
        refine ⟨(List.length_set ..).trans f.ln, f.ff, f.dm, f.nw, f.hp, fun i k a cc => ?_, fun i hi => ?_⟩
        · rcases key i k a cc with ⟨_, a2, a3⟩ | ⟨_, a2⟩
          · exact .inl ⟨a2, by rw [a3]; exact h2⟩
          · exact f.cc i k a a2
        · have ne : j ≠ i := fun z => hi (z ▸ hj)
          obtain ⟨g1, g2⟩ := f.un i hi
          exact ⟨(List.getElem?_set_ne ne).trans g1, (List.getElem?_set_ne ne).trans g2⟩
      have r2 : ItsR X.K x ⟨y.F, y.H, y.s.set j (some (.ref q)), y.r.set j (.cel .own ds)⟩ vs is as := by
        clear p p'
        induction r with
        | nil => exact .nil
        | val h1 _ ih => exact .val h1 (ih h4)
        | new g1 g2 g3 g4 _ ih =>
          refine .new g1 g2 (fun i k c => ?_) g4 (ih fun z => h4 (List.mem_cons_of_mem _ z))
          rcases key i k _ c with ⟨_, _, a3⟩ | ⟨_, a2⟩
          · exact h4 (by rw [← a3]; exact List.mem_cons_self)
          · exact g3 i k a2
      obtain ⟨z, a1, a2, a3, a4, a5, a6⟩ := setIts_run (js := js) s2 f2 r2 (fun i hi => hT i (List.mem_cons_of_mem _ hi)) p'
      exact ⟨z, a1, a2, a3, a4, a5, congrArg (· + 1) a6⟩
    · simp only [c, if_false] at p'
      exact p'.elim
def sParN (js : List Nat) (m : M (List PIt)) : M Fl := mB m fun is => mB (setIts js is) fun _ => mP .nx
theorem ss_parN2 (i j : Nat) {x y : Str} {a b : Expr} {m : M (List PIt)} {px py pt pos : Pos} {kt k2 pt2} (hc : X.calm = true) (hN : X.N.Nodup) (ha : SP' X W T [a, b] m) (hw : swappedStores [.Tuple [.Name x px, .Name y py] kt pt] (.Tuple [a, b] k2 pt2) X.env = pure (some [x, y]))
    (hi : X.N[i]? = some x := by rfl) (hj : X.N[j]? = some y := by rfl) (hij : i ≠ j := by decide) (hx : X.env.scope.names.lookup x = some .local := by rfl) (hy : X.env.scope.names.lookup y = some .local := by rfl) (hT : ∀ l ∈ [i, j], l ∈ T := by decide)
    (hs : swapsWithSole [.Tuple [.Name x px, .Name y py] kt pt] (.Tuple [a, b] k2 pt2) pos.line X.env = pure false := by rfl) : SS X W T (.Assign [.Tuple [.Name x px, .Name y py] kt pt] (.Tuple [a, b] k2 pt2) pos) (sParN [i, j] m) := by
  obtain ⟨ta, pa, ea⟩ := ha.ex
  refine ⟨_, ps_par hc hN hi hj hij hx hy pa hw hs, fun z Dn s p => ?_⟩
  refine ea z _ s ?_
  unfold sParN mB at p
  cases e0 : m z.r with
  | exc c pl ρ => simp only [e0] at p; exact p
  | bad => simp only [e0] at p; exact p
  | ok is ρ =>
    simp only [e0] at p
    intro y hy f1 s1 e1 vs as hv
    rw [← hy] at p
    obtain ⟨w, a1, a2, a3, a4, a5, a6⟩ := setIts_run (m := mP Fl.nx) s1 f1 hv hT p
    match vs, a6 with
    | [v, u], _ =>
      refine ⟨v, u, rfl, ?_⟩
      have h := a5 w rfl a4 a3
      have h' : Dn.nx w.s w.H := h
      rw [a1, a2, e1] at h'
      exact h'
theorem ss_parN3 (i j l : Nat) {x y z : Str} {a b c : Expr} {m : M (List PIt)} {px py pz pt pos : Pos} {kt k2 pt2} (hc : X.calm = true) (hN : X.N.Nodup) (ha : SP' X W T [a, b, c] m) (hw : swappedStores [.Tuple [.Name x px, .Name y py, .Name z pz] kt pt] (.Tuple [a, b, c] k2 pt2) X.env = pure (some [x, y, z]))
    (hi : X.N[i]? = some x := by rfl) (hj : X.N[j]? = some y := by rfl) (hl : X.N[l]? = some z := by rfl) (hij : i ≠ j := by decide) (hil : i ≠ l := by decide) (hjl : j ≠ l := by decide) (hx : X.env.scope.names.lookup x = some .local := by rfl) (hy : X.env.scope.names.lookup y = some .local := by rfl) (hz : X.env.scope.names.lookup z = some .local := by rfl) (hT : ∀ m ∈ [i, j, l], m ∈ T := by decide)
    (hs : swapsWithSole [.Tuple [.Name x px, .Name y py, .Name z pz] kt pt] (.Tuple [a, b, c] k2 pt2) pos.line X.env = pure false := by rfl) : SS X W T (.Assign [.Tuple [.Name x px, .Name y py, .Name z pz] kt pt] (.Tuple [a, b, c] k2 pt2) pos) (sParN [i, j, l] m) := by
  obtain ⟨ta, pa, ea⟩ := ha.ex
  refine ⟨_, ps_par3 hc hN hi hj hl hij hil hjl hx hy hz pa hw hs, fun q Dn s p => ?_⟩
  refine ea q _ s ?_
  unfold sParN mB at p
  cases e0 : m q.r with
  | exc c pl ρ => simp only [e0] at p; exact p
  | bad => simp only [e0] at p; exact p
  | ok is ρ =>
    simp only [e0] at p
    intro y hy f1 s1 e1 vs as hv
    rw [← hy] at p
    obtain ⟨w, a1, a2, a3, a4, a5, a6⟩ := setIts_run (m := mP Fl.nx) s1 f1 hv hT p
    match vs, a6 with
    | [v, u, t], _ =>
      refine ⟨v, u, t, rfl, ?_⟩
      have h := a5 w rfl a4 a3
      have h' : Dn.nx w.s w.H := h
      rw [a1, a2, e1] at h'
      exact h'
/-- a statement behind a list that is frozen from here on -/
theorem ss_frz (j : Nat) {st : Stmt} {m : M Fl} (h : SS X W T st m) (hj : j ∈ T := by decide) : SS X W T st (frz j m) := by
  obtain ⟨te, pe, ev⟩ := h.ex
  refine ⟨te, pe, fun x Q s p => ?_⟩
  obtain ⟨y, e1, e2, f, sy, p1⟩ := frz_run hj s p
  rw [← e1, ← e2]
  exact ev y Q sy (p1.mono fun a z _ _ q => SQ.shift f q)
theorem st_frz (j : Nat) {e : Expr} {m : M Bool} (h : ST X W T e m) (hj : j ∈ T := by decide) : ST X W T e (frz j m) := by
  obtain ⟨te, pe, ev⟩ := h.ex
  refine ⟨te, pe, fun x Q s p => ?_⟩
  obtain ⟨y, e1, e2, f, sy, p1⟩ := frz_run hj s p
  rw [← e1, ← e2]
  exact ev y Q sy (p1.mono fun a z _ _ q hs => q (hs.trans e1))
end
end FL
namespace FL
open PySem PySem.Spec L2
/-! ### the law's call -/
theorem fun_same {K : PySem.W.Frag} {x q : Str} {st : Stmt} {f : Addr} {fd fd' : FuncData} (A : Fun K x q st f fd) (B : Fun K x q st f fd') : fd' = fd := by
  obtain ⟨oc, od, kV, doc, pm, an, cdv, ct, osl, _, h1, _⟩ := A.ex
  obtain ⟨oc', od', kV', doc', pm', an', cdv', ct', osl', _, h2, _⟩ := B.ex
  rw [h1] at h2
  injection h2 with h2
  injection h2 with _ _ h2 _
  injection h2 with h2
  exact h2.symm
/-- what the plain function has to do -/
def Plain (F : List Ent → R D) : Prop := ∀ ns : List Int, ns.length ≤ 63 → (∀ z ∈ ns, Builtin.Int.intBits z ≤ 1048576) → F [.val (.scr (ns.map .int))] = .ok (.bl true) []
def spLaw (K : PySem.W.Frag) : Sp := fun vs H Q _ => ∃ (a : Addr) (ns : List Int), vs = [.ref a] ∧ SqL K H a (ns.map V.int) ∧ ns.length ≤ 63 ∧ (∀ z ∈ ns, Builtin.Int.intBits z ≤ 1048576) ∧ ∀ H', Q (.bl true) H'
theorem rep_ints {K : PySem.W.Frag} {F : Hp} : ∀ ns : List Int, RepL K F (ns.map V.int) (ns.map D.int)
  | [] => .nil
  | z :: ns => .cons (.int z) (rep_ints ns)
theorem law_imp {K : PySem.W.Frag} {mg : Str → Option Value} {F : List Ent → R D} (hF : Plain F) : ∀ vs H Q E, spLaw K vs H Q E → SpF K mg none false 1 F vs H Q E := by
  rintro vs H Q E ⟨a, ns, rfl, hS, hl, hb, hq⟩
  refine ⟨rfl, ⟨H, H, [some (.ref a)], [.val (.scr (ns.map .int))]⟩, rfl, rfl, ⟨Same.refl _, rfl, fun i d h => ?_, fun i k es h => ?_, fun i j k l p h _ => ?_⟩, fun i k p h => ?_, ?_⟩
  · match i, h with
    | 0, h =>
      cases h
      exact ⟨.ref a, rfl, .scr hS (rep_ints ns)⟩
  · match i, h with
    | 0, h => cases h
  · obtain ⟨⟨ds, h⟩, _⟩ := h
    match i, h with
    | 0, h => cases h
  · obtain ⟨⟨ds, h⟩, _⟩ := h
    match i, h with
    | 0, h => cases h
  · show PostF K mg none false _ (F [.val (.scr (ns.map .int))]) Q E
    rw [hF ns hl hb]
    intro y _ _ _ _ v hv
    cases hv
    exact hq _
theorem walkF {l : PySem.W.OpenLaw} {q : Program} {loose : List Str} {k : Nat} {XP : (Str → Option Value) → Heap → Prop} {YP : World → Heap → Prop} {d : DefRec} {K : Params → PySem.W.Frag} (hn : l.most = some 63) (hdf : d.params.defaults = []) (hk : Room k callerA)
    (hY : ∀ (w : World) (h : Heap), YP w h → (K w.params).In h)
    (F : ∀ (w : World) (mg : Str → Option Value) (fa : Addr) (h : Heap), (K w.params).In h → h.Ns mainGlobals mg → mg d.name = some (.ref fa) →
      ∃ fd : FuncData, (∀ (s : Shared) (u : Value), BindsTo s fd ⟨[u], []⟩ [("script", u)]) ∧ ∀ base : Heap, (K w.params).In base → base.Ns mainGlobals mg → FnOk l.prog w (K w.params) mg base (L2.CX l.prog w) k fa fd ["script"] (spLaw (K w.params))) :
    PySem.W.WalkO q loose XP YP l.row.toRowW d [] (fun f vs => PySem.call f vs) :=
  L2.walk_ofB (n := 63) (k := k) (x := "script") (CX := fun w => L2.CX l.prog w) (sp := fun w => spLaw (K w.params)) hn (by decide) hdf hk hY F (fun _ _ a ns hl hb _ hS => ⟨a, ns, rfl, hS, hl, hb, fun _ => rfl⟩) fun w H s e s' z => by
    obtain ⟨_, _, _, _, _, _, _, _, _, _, _, _, z⟩ := z
    exact z
end FL
namespace FL
open PySem PySem.Spec L2
/-! ### plain reasoning -/
def Wp {α : Type} (m : M α) (r : List Ent) (Q : α → List Ent → Prop) : Prop := match m r with
  | .ok a r' => Q a r'
  | _ => False
def WpF (F : List Ent → R D) (es : List Ent) (Q : D → List Ent → Prop) : Prop := match F es with
  | .ok d o => Q d o
  | _ => False
variable {α β : Type} {r : List Ent} {Q : α → List Ent → Prop}
theorem Wp.imp {m : M α} {Q' : α → List Ent → Prop} (h : Wp m r Q) (q : ∀ a r', Q a r' → Q' a r') : Wp m r Q' := by
  unfold Wp at h ⊢
  cases e : m r with
  | ok a r' => rw [e] at h; exact q _ _ h
  | exc c p r' => rw [e] at h; exact h
  | bad => rw [e] at h; exact h
theorem WpF.imp {F : List Ent → R D} {es : List Ent} {Q Q' : D → List Ent → Prop} (h : WpF F es Q) (q : ∀ a r', Q a r' → Q' a r') : WpF F es Q' := by
  unfold WpF at h ⊢
  cases e : F es with
  | ok a r' => rw [e] at h; exact q _ _ h
  | exc c p r' => rw [e] at h; exact h
  | bad => rw [e] at h; exact h
theorem WpF.eq {F : List Ent → R D} {es : List Ent} {d : D} {o : List Ent} (h : WpF F es fun a b => a = d ∧ b = o) : F es = .ok d o := by
  unfold WpF at h
  cases e : F es with
  | ok a r' => rw [e] at h; rw [h.1, h.2]
  | exc c p r' => rw [e] at h; exact h.elim
  | bad => rw [e] at h; exact h.elim
theorem WpF.of {F : List Ent → R D} {es : List Ent} {d : D} {o : List Ent} {Q : D → List Ent → Prop} (h : F es = .ok d o) (q : Q d o) : WpF F es Q := by
  unfold WpF
  rw [h]
  exact q
theorem wp_P {a : α} (q : Q a r) : Wp (mP a) r Q := q
theorem wp_B {m : M β} {f : β → M α} (h : Wp m r fun b r' => Wp (f b) r' Q) : Wp (mB m f) r Q := by
  unfold Wp mB at *
  cases e : m r with
  | ok a r' => rw [e] at h; exact h
  | exc c p r' => rw [e] at h; exact h.elim
  | bad => rw [e] at h; exact h.elim
theorem wp_O {a : α} {o : Option α} (e : o = some a) (q : Q a r) : Wp (mO o) r Q := by subst e; exact q
theorem wp_of {m : M α} {a : α} {r' : List Ent} (e : m r = .ok a r') (q : Q a r') : Wp m r Q := by unfold Wp; rw [e]; exact q
section
variable {Q : D → List Ent → Prop} {a b c m : M D} {i j : Nat} {d e : D}
theorem wp_var (h : r[i]? = some (.val d)) (q : Q d r) : Wp (xVar i) r Q := by unfold Wp xVar; rw [h]; exact q
theorem wp_C (q : Q d r) : Wp (xC d) r Q := q
theorem wp_2 {op : D → D → Option D} (h : Wp a r fun d r1 => Wp b r1 fun e r2 => Wp (mO (op d e)) r2 Q) : Wp (x2 op a b) r Q := wp_B (h.imp fun _ _ h => wp_B h)
theorem wp_1 {op : D → Option D} (h : Wp a r fun d r1 => Wp (mO (op d)) r1 Q) : Wp (x1 op a) r Q := wp_B h
theorem wp_xB {o : List D → Option D} {m : M (List D)} (h : Wp m r fun ds r1 => Wp (mO (o ds)) r1 Q) : Wp (xB o m) r Q := wp_B h
theorem wp_lB {o : List D → Option (List D)} {m : M (List D)} {Q : List D → List Ent → Prop} (h : Wp m r fun ds r1 => Wp (mO (o ds)) r1 Q) : Wp (lB o m) r Q := wp_B h
theorem wp_iOf {o : List D → Option (List D)} {m : M (List D)} {Q : List D → List Ent → Prop} (h : Wp m r fun ds r1 => Wp (mO (o ds)) r1 Q) : Wp (iOf o m) r Q := wp_B h
theorem wp_iRow {Q : List D → List Ent → Prop} (h : Wp m r fun d r1 => Wp (mO (rowD d)) r1 Q) : Wp (iRow m) r Q := wp_B h
theorem wp_cons {m : M (List D)} {Q : List D → List Ent → Prop} (h : Wp a r fun d r1 => Wp m r1 fun ds r2 => Q (d :: ds) r2) : Wp (dCons a m) r Q := wp_B (h.imp fun _ _ h => wp_B h)
theorem wp_tup {m : M (List D)} (h : Wp m r fun ds r1 => ds.length ≤ most ∧ Q (.tup ds) r1) : Wp (xTup m) r Q := wp_B (h.imp fun ds _ h => by
  show Wp (if decide (ds.length ≤ most) then mP (.tup ds) else fun _ => .bad) _ Q
  rw [if_pos (decide_eq_true h.1)]
  exact h.2)
theorem wp_lst {m : M (List D)} {Q : List D → List Ent → Prop} (h : Wp m r fun ds r1 => ds.length ≤ most ∧ Q ds r1) : Wp (lLst m) r Q := wp_B (h.imp fun ds _ h => by
  show Wp (if decide (ds.length ≤ most) then mP ds else fun _ => .bad) _ Q
  rw [if_pos (decide_eq_true h.1)]
  exact h.2)
theorem wp_fz {m : M (List D)} (h : Wp m r fun ds r1 => Q (.lst ds) r1) : Wp (xFz m) r Q := wp_B h
theorem wp_oInt {Q : Option Int → List Ent → Prop} (h : Wp m r fun d r1 => ∃ i, d = .int i ∧ Q (some i) r1) : Wp (oInt m) r Q := wp_B (h.imp fun d _ ⟨i, e, q⟩ => by subst e; exact q)
theorem wp_cut {lo hi : M (Option Int)} (h : Wp a r fun d r1 => Wp lo r1 fun l r2 => Wp hi r2 fun h r3 => Wp (mO (cutD d l h)) r3 Q) : Wp (xCut a lo hi) r Q := wp_B (h.imp fun _ _ h => wp_B (h.imp fun _ _ h => wp_B h))
theorem wp_xT {Q : Bool → List Ent → Prop} (h : Wp m r fun d r1 => ∃ k, d = .bl k ∧ Q k r1) : Wp (mT m) r Q := wp_B (h.imp fun d _ ⟨i, e, q⟩ => by subst e; exact q)
theorem wp_tru {Q : Bool → List Ent → Prop} (h : Wp m r fun d r1 => ∃ k, truB d = some k ∧ Q k r1) : Wp (mTru m) r Q := wp_B (h.imp fun d _ ⟨i, e, q⟩ => wp_O e q)
theorem wp_and (h : Wp a r fun d r1 => ∃ k, truB d = some k ∧ (k = true → Wp b r1 Q) ∧ (k = false → Q d r1)) : Wp (xAnd a b) r Q := wp_B (h.imp fun d _ ⟨k, e, h1, h2⟩ => wp_B (wp_O e (by
  cases k with
  | true => exact h1 rfl
  | false => exact h2 rfl)))
theorem wp_or (h : Wp a r fun d r1 => ∃ k, truB d = some k ∧ (k = false → Wp b r1 Q) ∧ (k = true → Q d r1)) : Wp (xOr a b) r Q := wp_B (h.imp fun d _ ⟨k, e, h1, h2⟩ => wp_B (wp_O e (by
  cases k with
  | true => exact h2 rfl
  | false => exact h1 rfl)))
theorem wp_not (h : Wp a r fun d r1 => ∃ k, truB d = some k ∧ Q (.bl (!k)) r1) : Wp (xNot a) r Q := wp_B (h.imp fun d _ ⟨k, e, h1⟩ => wp_B (wp_O e h1))
theorem wp_tAnd {a b : M Bool} {Q : Bool → List Ent → Prop} (h : Wp a r fun k r1 => (k = true → Wp b r1 Q) ∧ (k = false → Q false r1)) : Wp (tAndM a b) r Q := wp_B (h.imp fun k _ ⟨h1, h2⟩ => by
  cases k with
  | true => exact h1 rfl
  | false => exact h2 rfl)
theorem wp_tOr {a b : M Bool} {Q : Bool → List Ent → Prop} (h : Wp a r fun k r1 => (k = false → Wp b r1 Q) ∧ (k = true → Q true r1)) : Wp (tOrM a b) r Q := wp_B (h.imp fun k _ ⟨h1, h2⟩ => by
  cases k with
  | true => exact h2 rfl
  | false => exact h1 rfl)
theorem wp_tNot {a : M Bool} {Q : Bool → List Ent → Prop} (h : Wp a r fun k r1 => Q (!k) r1) : Wp (tNotM a) r Q := wp_B h
theorem wp_xIf {c : M Bool} (h : Wp c r fun k r1 => (k = true → Wp a r1 Q) ∧ (k = false → Wp b r1 Q)) : Wp (xIf c a b) r Q := wp_B (h.imp fun k _ ⟨h1, h2⟩ => by
  cases k with
  | true => exact h1 rfl
  | false => exact h2 rfl)
theorem wp_chain {o o' : D → D → Option D} (h : Wp a r fun d r1 => Wp b r1 fun e r2 => ∃ k, o d e = some (.bl k) ∧ (k = true → Wp c r2 fun g r3 => Wp (mO (o' e g)) r3 Q) ∧ (k = false → Q (.bl false) r2)) : Wp (xChain o o' a b c) r Q :=
  wp_B (h.imp fun _ _ h => wp_B (h.imp fun _ _ ⟨k, e, h1, h2⟩ => wp_B (wp_O e (by
    cases k with
    | true => exact wp_B (h1 rfl)
    | false => exact h2 rfl))))
/-! statements -/
theorem wp_seq {f g : M Fl} {Q : Fl → List Ent → Prop} (h : Wp f r fun fl r1 => (fl = .nx → Wp g r1 Q) ∧ (fl ≠ .nx → Q fl r1)) : Wp (sSeq f g) r Q := wp_B (h.imp fun fl _ ⟨h1, h2⟩ => by
  cases fl with
  | nx => exact h1 rfl
  | _ => exact h2 (fun z => nomatch z))
theorem wp_sIf {c : M Bool} {a b : M Fl} {Q : Fl → List Ent → Prop} (h : Wp c r fun k r1 => (k = true → Wp a r1 Q) ∧ (k = false → Wp b r1 Q)) : Wp (sIf c a b) r Q := wp_B (h.imp fun k _ ⟨h1, h2⟩ => by
  cases k with
  | true => exact h1 rfl
  | false => exact h2 rfl)
theorem wp_ret {Q : Fl → List Ent → Prop} (h : Wp m r fun d r1 => Q (.rt d) r1) : Wp (sRet m) r Q := wp_B h
theorem wp_retL {m : M (List D)} {Q : Fl → List Ent → Prop} (h : Wp m r fun d r1 => Q (.rtL d) r1) : Wp (sRetL m) r Q := wp_B h
theorem wp_retC {ds : List D} {Q : Fl → List Ent → Prop} (h : r[i]? = some (.cel .own ds)) (q : Q (.rtL ds) r) : Wp (sRetC i) r Q := by unfold Wp sRetC; rw [h]; exact q
theorem wp_expr {Q : Fl → List Ent → Prop} (h : Wp m r fun d r1 => Q .nx r1) : Wp (sExpr m) r Q := wp_B h
theorem wp_setv {Q : Unit → List Ent → Prop} (h : i < r.length) (q : Q () (r.set i (.val d))) : Wp (setv i d) r Q := by unfold Wp setv; rw [if_pos h]; exact q
theorem wp_setc {k : CK} {ds : List D} {Q : Unit → List Ent → Prop} (h : i < r.length) (q : Q () (r.set i (.cel k ds))) : Wp (setc i k ds) r Q := by unfold Wp setc; rw [if_pos h]; exact q
theorem wp_set {Q : Fl → List Ent → Prop} (h : Wp m r fun d r1 => i < r1.length ∧ Q .nx (r1.set i (.val d))) : Wp (sSet i m) r Q := wp_B (h.imp fun _ _ ⟨h1, h2⟩ => wp_B (wp_setv h1 h2))
theorem wp_setL {m : M (List D)} {Q : Fl → List Ent → Prop} (h : Wp m r fun ds r1 => i < r1.length ∧ Q .nx (r1.set i (.cel .own ds))) : Wp (sSetL i m) r Q := wp_B (h.imp fun _ _ ⟨h1, h2⟩ => wp_B (wp_setc h1 h2))
theorem wp_asg {g : D → M Unit} {Q : Fl → List Ent → Prop} (h : Wp m r fun d r1 => Wp (g d) r1 fun _ r2 => Q .nx r2) : Wp (sAsg m g) r Q := wp_B (h.imp fun _ _ h => wp_B h)
theorem wp_gsTup {n : Nat} {ds : List D} {g : List D → M Unit} {Q : Unit → List Ent → Prop} (h : ds.length = n) (q : Wp (g ds) r Q) : Wp (gsTup n g (.tup ds)) r Q := by
  show Wp (if ds.length = n then g ds else fun _ => .bad) r Q
  rw [if_pos h]
  exact q
theorem wp_gsCons {f : D → M Unit} {g : List D → M Unit} {ds : List D} {Q : Unit → List Ent → Prop} (h : Wp (f d) r fun _ r1 => Wp (g ds) r1 Q) : Wp (gsCons f g (d :: ds)) r Q := wp_B h
theorem wp_gsNil {Q : Unit → List Ent → Prop} (h : Q () r) : Wp (gsNil []) r Q := h
theorem wp_gsSub {ix : M D} {Q : Unit → List Ent → Prop} (h : Wp ix r fun i r1 => ∃ k ds es, r1[j]? = some (.cel k ds) ∧ setIx d i ds = some es ∧ Q () (r1.set j (.cel k es))) (hc : ∃ k ds, r[j]? = some (.cel k ds)) : Wp (gsSub j ix d) r Q := by
  obtain ⟨k, ds, hc⟩ := hc
  refine wp_B (wp_of (a := ()) (r' := r) (by unfold hasC; rw [hc]) ?_)
  refine wp_B (h.imp fun i r1 ⟨k, ds, es, e1, e2, q⟩ => wp_B (wp_of (a := ()) (r' := r1.set j (.cel k es)) (by unfold updc; rw [e1]; simp only; rw [e2]) q))
theorem wp_app {Q : Fl → List Ent → Prop} (hc : ∃ k ds, r[j]? = some (.cel k ds)) (h : Wp m r fun d r1 => ∃ k ds, r1[j]? = some (.cel k ds) ∧ ds.length < most ∧ Q .nx (r1.set j (.cel k (ds ++ [d])))) : Wp (sApp j m) r Q := by
  obtain ⟨k, ds, hc⟩ := hc
  refine wp_B (wp_of (a := ()) (r' := r) (by unfold hasC; rw [hc]) ?_)
  refine wp_B (h.imp fun d r1 ⟨k, ds, e1, e2, q⟩ => wp_B (wp_of (a := ()) (r' := r1.set j (.cel k (ds ++ [d]))) (by unfold updc appC; rw [e1]; simp only; rw [if_pos (decide_eq_true e2)]) q))
theorem wp_par2 {m : M (List D)} {Q : Fl → List Ent → Prop} (h : Wp m r fun ds r1 => ∃ d e, ds = [d, e] ∧ i < r1.length ∧ j < r1.length ∧ Q .nx ((r1.set i (.val d)).set j (.val e))) : Wp (sPar2 i j m) r Q := wp_B (h.imp fun ds r1 ⟨d, e, q, h1, h2, h3⟩ => by
  subst q
  exact wp_B (wp_setv h1 (wp_B (wp_setv (by rw [List.length_set]; exact h2) h3))))
theorem wp_par3 {l : Nat} {m : M (List D)} {Q : Fl → List Ent → Prop} (h : Wp m r fun ds r1 => ∃ d e g, ds = [d, e, g] ∧ i < r1.length ∧ j < r1.length ∧ l < r1.length ∧ Q .nx (((r1.set i (.val d)).set j (.val e)).set l (.val g))) : Wp (sPar3 i j l m) r Q := wp_B (h.imp fun ds r1 ⟨d, e, g, q, h1, h2, h3, h4⟩ => by
  subst q
  exact wp_B (wp_setv h1 (wp_B (wp_setv (by rw [List.length_set]; exact h2) (wp_B (wp_setv (by rw [List.length_set, List.length_set]; exact h3) h4))))))
theorem wp_parN {js : List Nat} {m : M (List PIt)} {Q : Fl → List Ent → Prop} (h : Wp m r fun is r1 => Wp (setIts js is) r1 fun _ r2 => Q .nx r2) : Wp (sParN js m) r Q := wp_B (h.imp fun _ _ h => wp_B h)
theorem wp_pVal {m : M (List PIt)} {Q : List PIt → List Ent → Prop} (h : Wp a r fun d r1 => Wp m r1 fun ds r2 => Q (.val d :: ds) r2) : Wp (pVal a m) r Q := wp_B (h.imp fun _ _ h => wp_B h)
theorem wp_pNew {a : M (List D)} {m : M (List PIt)} {Q : List PIt → List Ent → Prop} (h : Wp a r fun d r1 => Wp m r1 fun ds r2 => Q (.new d :: ds) r2) : Wp (pNew a m) r Q := wp_B (h.imp fun _ _ h => wp_B h)
theorem wp_its0 {Q : Unit → List Ent → Prop} (h : Q () r) : Wp (setIts [] []) r Q := h
theorem wp_itsV {is : List Nat} {l : List PIt} {Q : Unit → List Ent → Prop} (h1 : i < r.length) (h : Wp (setIts is l) (r.set i (.val d)) Q) : Wp (setIts (i :: is) (.val d :: l)) r Q := wp_B (wp_setv h1 h)
theorem wp_itsN {is : List Nat} {ds : List D} {l : List PIt} {Q : Unit → List Ent → Prop} (h1 : i < r.length) (h : Wp (setIts is l) (r.set i (.cel .own ds)) Q) : Wp (setIts (i :: is) (.new ds :: l)) r Q := wp_B (wp_setc h1 h)
/-- a walk, by an invariant -/
theorem wp_forD {g : D → M Unit} {b : M Fl} {Q : Fl → List Ent → Prop} (I : List D → List Ent → Prop) (step : ∀ d ds r, I (d :: ds) r → Wp (g d) r fun _ r1 => Wp b r1 fun fl r2 => (fl = .nx ∨ fl = .co → I ds r2) ∧ (fl = .br → Q .nx r2) ∧ (∀ d, fl = .rt d → Q (.rt d) r2) ∧ ∀ ds, fl = .rtL ds → Q (.rtL ds) r2)
    (fin : ∀ r, I [] r → Q .nx r) : ∀ (ds : List D) (r : List Ent), I ds r → Wp (forD g b ds) r Q
  | [], r, h => fin r h
  | d :: ds, r, h => wp_B ((step d ds r h).imp fun _ r1 h1 => wp_B (h1.imp fun fl r2 ⟨h2, h3, h4, h5⟩ => by
    cases fl with
    | nx => exact wp_forD I step fin ds r2 (h2 (.inl rfl))
    | co => exact wp_forD I step fin ds r2 (h2 (.inr rfl))
    | br => exact h3 rfl
    | rt d => exact h4 d rfl
    | rtL ds => exact h5 ds rfl))
theorem wp_for {it : M (List D)} {g : D → M Unit} {b : M Fl} {Q : Fl → List Ent → Prop} (h : Wp it r fun ds r1 => Wp (forD g b ds) r1 Q) : Wp (sFor it g b) r Q := wp_B h
theorem wp_while1 {c : M Bool} {b : M Fl} {n : Nat} {Q : Fl → List Ent → Prop} (h : Wp c r fun k r1 => (k = true → Wp b r1 fun fl r2 => (fl = .nx ∨ fl = .co → Wp (whileD c b n) r2 Q) ∧ (fl = .br → Q .nx r2) ∧ (∀ d, fl = .rt d → Q (.rt d) r2) ∧ ∀ ds, fl = .rtL ds → Q (.rtL ds) r2) ∧ (k = false → Q .nx r1)) : Wp (whileD c b (n + 1)) r Q :=
  wp_B (h.imp fun k r1 ⟨h1, h2⟩ => by
    cases k with
    | false => exact h2 rfl
    | true => exact wp_B ((h1 rfl).imp fun fl r2 ⟨h3, h4, h5, h6⟩ => by
      cases fl with
      | nx => exact h3 (.inl rfl)
      | co => exact h3 (.inr rfl)
      | br => exact h4 rfl
      | rt d => exact h5 d rfl
      | rtL ds => exact h6 ds rfl))
/-! calls -/
theorem wp_callD {np : Nat} {F : List Ent → R D} {m : M (List D)} (h : Wp m r fun ds r1 => ds.length = np ∧ WpF F (valsOf ds) fun d _ => Q d r1) : Wp (callD np F m) r Q := wp_B (h.imp fun ds r1 ⟨h1, h2⟩ => by
  unfold Wp WpF at *
  simp only [h1, if_true]
  cases e : F (valsOf ds) with
  | ok a o => rw [e] at h2; exact h2
  | exc c p o => rw [e] at h2; exact h2
  | bad => rw [e] at h2; exact h2)
theorem wp_callL {np : Nat} {F : List Ent → R D} {m : M (List D)} {Q : List D → List Ent → Prop} (h : Wp m r fun ds r1 => ds.length = np ∧ WpF F (valsOf ds) fun d _ => ∃ es, d = .lst es ∧ Q es r1) : Wp (callL np F m) r Q := wp_B (h.imp fun ds r1 ⟨h1, h2⟩ => by
  unfold Wp WpF at *
  simp only [h1, if_true]
  cases e : F (valsOf ds) with
  | ok a o => rw [e] at h2; obtain ⟨es, rfl, q⟩ := h2; exact q
  | exc c p o => rw [e] at h2; exact h2
  | bad => rw [e] at h2; exact h2)
theorem wp_callKw {np n : Nat} {ix : List Nat} {F : List Ent → R D} {m : M (List D)} (h : Wp m r fun ds r1 => ds.length = n ∧ (ordL ix ds).length = np ∧ WpF F (valsOf (ordL ix ds)) fun d _ => Q d r1) : Wp (callKw np n ix F m) r Q := wp_B (h.imp fun ds r1 ⟨h1, h2, h3⟩ => by
  unfold Wp WpF at *
  simp only [h1, h2, and_self, decide_true, if_true]
  cases e : F (valsOf (ordL ix ds)) with
  | ok a o => rw [e] at h3; exact h3
  | exc c p o => rw [e] at h3; exact h3
  | bad => rw [e] at h3; exact h3)
theorem wp_callP {np : Nat} {v : Str} {F : List Ent → R D} {m : M (List D)} (h0 : r[i]? = some (.val (.dfn v))) (h : Wp m r fun ds r1 => ds.length = np ∧ WpF F (valsOf ds) fun d _ => Q d r1) : Wp (callP i v np F m) r Q := by
  refine wp_B (wp_of (a := ()) (r' := r) (by unfold isDef; rw [h0]; simp) ?_)
  exact wp_callD h
theorem wp_late {m : M (List Arg)} {Q : List Arg → List Ent → Prop} (hc : ∃ k ds, r[j]? = some (.cel k ds)) (h : Wp m r fun as r1 => Q (.late j :: as) r1) : Wp (aLate j m) r Q := by
  obtain ⟨k, ds, hc⟩ := hc
  exact wp_B (wp_of (a := ()) (r' := r) (by unfold hasS; rw [hc]) (wp_B h))
theorem wp_aVal {m : M (List Arg)} {Q : List Arg → List Ent → Prop} (h : Wp a r fun d r1 => Wp m r1 fun as r2 => Q (.val d :: as) r2) : Wp (aVal a m) r Q := wp_B (h.imp fun _ _ h => wp_B h)
theorem wp_callI {np n : Nat} {T : List Nat} {F : List Ent → R D} {m : M (List Arg)} (h : Wp m r fun as r1 => ∃ pre j post k ds, splitA as = some (pre, j, post) ∧ (as.length = np ∧ pre.length = n ∧ j ∈ T) ∧ r1[j]? = some (.cel k ds) ∧ WpF F (ioArgs pre ds post) fun d o => ∃ es, o = [.cel .io es] ∧ Q d (r1.set j (.cel k es))) : Wp (callI np n T F m) r Q :=
  wp_B (h.imp fun as r1 ⟨pre, j, post, k, ds, h1, h2, h3, h4⟩ => by
    unfold WpF at h4
    unfold Wp
    rw [h1]
    simp only
    rw [if_pos (decide_eq_true h2), h3]
    simp only
    cases e : F (ioArgs pre ds post) with
    | ok a o => rw [e] at h4; obtain ⟨es, rfl, q⟩ := h4; exact q
    | exc c p o => rw [e] at h4; exact h4.elim
    | bad => rw [e] at h4; exact h4.elim)
/-- a list of one's own, read -/
theorem wp_lend {α : Type} {T : List Nat} {ok : α → Bool} {m : M α} {Q : α → List Ent → Prop} {k : CK} {ds : List D} (h0 : r[j]? = some (.cel k ds)) (h : Wp m (r.set j (.val (.lst ds))) fun a r1 => (ok a && okT T r1) = true ∧ Q a (r1.set j (.cel k ds))) : Wp (lend T j ok m) r Q := by
  unfold Wp at *
  unfold lend
  rw [h0]
  simp only
  cases e : m (r.set j (.val (.lst ds))) with
  | ok a o => rw [e] at h; simp only [h.1, if_true]; exact h.2
  | exc c p o => rw [e] at h; exact h.elim
  | bad => rw [e] at h; exact h.elim
theorem wp_frz {α : Type} {m : M α} {Q : α → List Ent → Prop} {ds : List D} (h0 : r[j]? = some (.cel .own ds)) (h : Wp m (r.set j (.val (.lst ds))) Q) : Wp (frz j m) r Q := by
  unfold Wp at *
  unfold frz
  rw [h0]
  exact h
/-- a def -/
theorem wp_def {n : Nat} {b : M Fl} {es : List Ent} {Q : D → List Ent → Prop} (h : Wp b (es ++ List.replicate (n - es.length) .no) fun fl _ => (fl = .nx ∧ Q .non []) ∨ ∃ d, fl = .rt d ∧ Q d []) : WpF (defF none false n b) es Q := by
  unfold Wp at h
  unfold WpF defF
  cases e : b (es ++ List.replicate (n - es.length) .no) with
  | ok fl r => rw [e] at h; rcases h with ⟨rfl, q⟩ | ⟨d, rfl, q⟩ <;> exact q
  | exc c p r => rw [e] at h; exact h
  | bad => rw [e] at h; exact h
theorem wp_defL {n : Nat} {b : M Fl} {es : List Ent} {Q : D → List Ent → Prop} (h : Wp b (es ++ List.replicate (n - es.length) .no) fun fl _ => ∃ ds, fl = .rtL ds ∧ Q (.lst ds) []) : WpF (defF none true n b) es Q := by
  unfold Wp at h
  unfold WpF defF
  cases e : b (es ++ List.replicate (n - es.length) .no) with
  | ok fl r => rw [e] at h; obtain ⟨d, rfl, q⟩ := h; exact q
  | exc c p r => rw [e] at h; exact h
  | bad => rw [e] at h; exact h
theorem wp_defI {n i : Nat} {b : M Fl} {es : List Ent} {Q : D → List Ent → Prop} (h : Wp b (es ++ List.replicate (n - es.length) .no) fun fl r => ∃ ds, r[i]? = some (.cel .io ds) ∧ ((fl = .nx ∧ Q .non [.cel .io ds]) ∨ ∃ d, fl = .rt d ∧ Q d [.cel .io ds])) : WpF (defF (some i) false n b) es Q := by
  unfold Wp at h
  unfold WpF defF
  cases e : b (es ++ List.replicate (n - es.length) .no) with
  | ok fl r =>
    rw [e] at h
    obtain ⟨ds, h1, h⟩ := h
    simp only [outs, h1]
    rcases h with ⟨rfl, q⟩ | ⟨d, rfl, q⟩ <;> exact q
  | exc c p r => rw [e] at h; exact h.elim
  | bad => rw [e] at h; exact h.elim
/-- a comprehension that changes nothing: p what is let, f what is made -/
theorem wp_compD {vs : List Nat} {g : D → M Unit} {t : M Bool} {e : M D} {r0 : List Ent} (p : D → Bool) (f : D → D) : ∀ (ds acc : List D) (Q : List D → List Ent → Prop),
    (∀ d ∈ ds, Wp (g d) r0 fun _ r1 => Wp t r1 fun k r2 => k = p d ∧ (k = true → Wp e r2 fun y r3 => y = f d ∧ wipeE r3 vs = r0) ∧ (k = false → wipeE r2 vs = r0)) → acc.length + ds.length ≤ most → Q (acc ++ (ds.filter p).map f) r0 → Wp (compD vs g t e ds acc) r0 Q
  | [], acc, Q, _, _, q => by
    rw [List.filter_nil, List.map_nil, List.append_nil] at q
    exact q
  | d :: ds, acc, Q, h, hl, q => by
    have h1 := h d (List.mem_cons_self ..)
    have hl' : acc.length + ds.length + 1 ≤ most := by rw [List.length_cons] at hl; omega
    have nx : ∀ {α : Type} {m : M α} {r : List Ent} {Q : α → List Ent → Prop}, Wp m r Q → Wp (noX m) r Q := fun {α m r Q} h => by
      unfold Wp at *
      unfold noX
      cases e : m r with
      | ok a o => rw [e] at h; exact h
      | exc c p o => rw [e] at h; exact h.elim
      | bad => rw [e] at h; exact h.elim
    refine wp_B (nx (h1.imp fun _ r1 h2 => wp_B (nx (h2.imp fun k r2 ⟨h3, h4, h5⟩ => ?_))))
    rw [List.filter_cons] at q
    cases k with
    | true =>
      refine wp_B (nx ((h4 rfl).imp fun y r3 ⟨h6, h7⟩ => ?_))
      rw [← h3] at q
      simp only [if_true, List.map_cons] at q
      have h8 : decide (acc.length < most) = true := decide_eq_true (by omega)
      show Wp (fun r => if decide (acc.length < most) then compD vs g t e ds (acc ++ [y]) (wipeE r vs) else .bad) r3 Q
      unfold Wp
      simp only [h8, if_true, h7]
      have := wp_compD p f ds (acc ++ [f d]) Q (fun d hd => h d (List.mem_cons_of_mem _ hd)) (by rw [List.length_append, List.length_singleton]; omega) (by rw [List.append_assoc]; exact q)
      rw [h6]
      exact this
    | false =>
      rw [← h3] at q
      have := wp_compD p f ds acc Q (fun d hd => h d (List.mem_cons_of_mem _ hd)) (by omega) q
      show Wp (fun r => compD vs g t e ds acc (wipeE r vs)) r2 Q
      unfold Wp
      simp only [h5 rfl]
      exact this
theorem wp_comp {vs : List Nat} {it : M (List D)} {g : D → M Unit} {t : M Bool} {e : M D} {Q : List D → List Ent → Prop} (p : D → Bool) (f : D → D)
    (h : Wp it r fun ds r1 => noCel vs r1 = true ∧ ds.length ≤ most ∧ (∀ d ∈ ds, Wp (g d) (wipeE r1 vs) fun _ r2 => Wp t r2 fun k r3 => k = p d ∧ (k = true → Wp e r3 fun y r4 => y = f d ∧ wipeE r4 vs = wipeE r1 vs) ∧ (k = false → wipeE r3 vs = wipeE r1 vs)) ∧ Q ((ds.filter p).map f) (putBack r1 (wipeE r1 vs) vs)) : Wp (lComp vs it g t e) r Q :=
  wp_B (h.imp fun ds r1 ⟨h1, h2, h3, h4⟩ => by
    have := wp_compD (vs := vs) p f ds [] (fun a r2 => Q a (putBack r1 r2 vs)) h3 (by simpa using h2) h4
    unfold Wp at *
    simp only [h1, if_true]
    cases q : compD vs g t e ds [] (wipeE r1 vs) with
    | ok a o => rw [q] at this; exact this
    | exc c p o => rw [q] at this; exact this.elim
    | bad => rw [q] at this; exact this.elim)
end
end FL
namespace FL
open PySem PySem.Spec L2
/-! ### plain facts of the built-ins -/
def hasTy (d : D) : Bool := (tyN d).isSome
def isIntD : D → Bool
  | .int _ => true
  | _ => false
def isBlD : D → Bool
  | .bl _ => true
  | _ => false
def isTupD : D → Bool
  | .tup _ => true
  | _ => false
def isStrD : D → Bool
  | .str _ => true
  | _ => false
def isLstD : D → Bool
  | .lst _ => true
  | _ => false
theorem isB_of {d : D} {n : String} {p : D → Bool} (h : hasTy d = true) (k1 : kitB "NoneType" n = some (p .non)) (k2 : ∀ b, d = .bl b → kitB "bool" n = some (p d)) (k3 : ∀ i, d = .int i → kitB "int" n = some (p d)) (k4 : ∀ x, d = .str x → kitB "str" n = some (p d))
    (k5 : ∀ ds, d = .tup ds → kitB "tuple" n = some (p d)) (k6 : ∀ ds, d = .lst ds → kitB "list" n = some (p d)) (k7 : ∀ ds, d = .dct ds → kitB "dict" n = some (p d)) : isB [d, .opq (.ty n)] = some (.bl (p d)) := by
  unfold isB
  simp only
  cases d with
  | non => show (kitB "NoneType" n).map D.bl = _; rw [k1]; rfl
  | bl b => show (kitB "bool" n).map D.bl = _; rw [k2 b rfl]; rfl
  | int b => show (kitB "int" n).map D.bl = _; rw [k3 b rfl]; rfl
  | str b => show (kitB "str" n).map D.bl = _; rw [k4 b rfl]; rfl
  | tup b => show (kitB "tuple" n).map D.bl = _; rw [k5 b rfl]; rfl
  | lst b => show (kitB "list" n).map D.bl = _; rw [k6 b rfl]; rfl
  | dct b => show (kitB "dict" n).map D.bl = _; rw [k7 b rfl]; rfl
  | scr b => cases h
  | opq b => cases h
  | dfn b => cases h
theorem isB_int {d : D} (h : hasTy d = true) : isB [d, .opq (.ty "int")] = some (.bl (isIntD d || isBlD d)) :=
  isB_of (p := fun d => isIntD d || isBlD d) h (by decide +kernel) (fun _ e => by subst e; exact (show kitB "bool" "int" = some true by decide +kernel)) (fun _ e => by subst e; exact (show kitB "int" "int" = some true by decide +kernel)) (fun _ e => by subst e; exact (show kitB "str" "int" = some false by decide +kernel)) (fun _ e => by subst e; exact (show kitB "tuple" "int" = some false by decide +kernel)) (fun _ e => by subst e; exact (show kitB "list" "int" = some false by decide +kernel)) (fun _ e => by subst e; exact (show kitB "dict" "int" = some false by decide +kernel))
theorem isB_bool {d : D} (h : hasTy d = true) : isB [d, .opq (.ty "bool")] = some (.bl (isBlD d)) :=
  isB_of (p := isBlD) h (by decide +kernel) (fun _ e => by subst e; exact (show kitB "bool" "bool" = some true by decide +kernel)) (fun _ e => by subst e; exact (show kitB "int" "bool" = some false by decide +kernel)) (fun _ e => by subst e; exact (show kitB "str" "bool" = some false by decide +kernel)) (fun _ e => by subst e; exact (show kitB "tuple" "bool" = some false by decide +kernel)) (fun _ e => by subst e; exact (show kitB "list" "bool" = some false by decide +kernel)) (fun _ e => by subst e; exact (show kitB "dict" "bool" = some false by decide +kernel))
theorem isB_tup {d : D} (h : hasTy d = true) : isB [d, .opq (.ty "tuple")] = some (.bl (isTupD d)) :=
  isB_of (p := isTupD) h (by decide +kernel) (fun _ e => by subst e; exact (show kitB "bool" "tuple" = some false by decide +kernel)) (fun _ e => by subst e; exact (show kitB "int" "tuple" = some false by decide +kernel)) (fun _ e => by subst e; exact (show kitB "str" "tuple" = some false by decide +kernel)) (fun _ e => by subst e; exact (show kitB "tuple" "tuple" = some true by decide +kernel)) (fun _ e => by subst e; exact (show kitB "list" "tuple" = some false by decide +kernel)) (fun _ e => by subst e; exact (show kitB "dict" "tuple" = some false by decide +kernel))
theorem isB_str {d : D} (h : hasTy d = true) : isB [d, .opq (.ty "str")] = some (.bl (isStrD d)) :=
  isB_of (p := isStrD) h (by decide +kernel) (fun _ e => by subst e; exact (show kitB "bool" "str" = some false by decide +kernel)) (fun _ e => by subst e; exact (show kitB "int" "str" = some false by decide +kernel)) (fun _ e => by subst e; exact (show kitB "str" "str" = some true by decide +kernel)) (fun _ e => by subst e; exact (show kitB "tuple" "str" = some false by decide +kernel)) (fun _ e => by subst e; exact (show kitB "list" "str" = some false by decide +kernel)) (fun _ e => by subst e; exact (show kitB "dict" "str" = some false by decide +kernel))
theorem eq_int (i j : Int) : eqD (.int i) (.int j) = some (.bl (decide (i = j))) := by
  show some (D.bl (PyData.eqv (.int i) (.int j))) = _
  congr 2
  first | rfl | (simp [PyData.eqv]; done) | skip
theorem ne_int (i j : Int) : neD (.int i) (.int j) = some (.bl (!decide (i = j))) := by
  have := eq_int i j
  unfold eqD at this
  unfold neD
  cases e : eqB (.int i) (.int j) with
  | none => rw [e] at this; cases this
  | some b => rw [e] at this; injection this with this; injection this with this; rw [this]; rfl
theorem eq_bl (i j : Bool) : eqD (.bl i) (.bl j) = some (.bl (i == j)) := by cases i <;> cases j <;> rfl
theorem bits_lt {i : Int} {n : Nat} (h : i.natAbs < 2 ^ n) : bitsOf i ≤ n + 1 := by
  unfold bitsOf
  by_cases z : i.natAbs = 0
  · rw [z]; simp
  · have := (Nat.log2_lt z).mpr h
    omega
theorem mul_ok {i j : Int} (h1 : i.natAbs < 2 ^ 4096) (h2 : j.natAbs < 2 ^ 4096) : mulD (.int i) (.int j) = some (.int (i * j)) := by
  have a := bits_lt h1
  have b := bits_lt h2
  unfold mulD mulOk
  simp only
  rw [if_pos (decide_eq_true (by omega))]
/-- for omega's bounds -/
theorem small (i : Int) (h : i.natAbs < 2 ^ 64) : i.natAbs < 2 ^ 4096 := Nat.lt_of_lt_of_le h (Nat.pow_le_pow_right (by decide) (by decide))
end FL
namespace FL
open PySem PySem.Spec L2
theorem br_t {A B : Prop} (h : A) : (true = true → A) ∧ (true = false → B) := ⟨fun _ => h, fun e => (nomatch e)⟩
theorem br_f {A B : Prop} (h : B) : (false = true → A) ∧ (false = false → B) := ⟨fun e => (nomatch e), fun _ => h⟩
theorem br_t' {A B : Prop} (h : A) : (true = false → B) ∧ (true = true → A) := ⟨fun e => (nomatch e), fun _ => h⟩
theorem br_f' {A B : Prop} (h : B) : (false = false → B) ∧ (false = true → A) := ⟨fun _ => h, fun e => (nomatch e)⟩
theorem br_d {p : Prop} [Decidable p] {A B : Prop} (h1 : p → A) (h2 : ¬p → B) : (decide p = true → A) ∧ (decide p = false → B) := ⟨fun e => h1 (of_decide_eq_true e), fun e => h2 (of_decide_eq_false e)⟩
theorem br_d' {p : Prop} [Decidable p] {A B : Prop} (h1 : ¬p → A) (h2 : p → B) : (decide p = false → A) ∧ (decide p = true → B) := ⟨fun e => h1 (of_decide_eq_false e), fun e => h2 (of_decide_eq_true e)⟩
theorem br_n {k : Bool} {A B : Prop} (h : (k = false → A) ∧ (k = true → B)) : ((!k) = true → A) ∧ ((!k) = false → B) := ⟨fun e => h.1 (by cases k <;> first | rfl | cases e), fun e => h.2 (by cases k <;> first | rfl | cases e)⟩
theorem br_n' {k : Bool} {A B : Prop} (h : (k = true → A) ∧ (k = false → B)) : ((!k) = false → A) ∧ ((!k) = true → B) := ⟨fun e => h.1 (by cases k <;> first | rfl | cases e), fun e => h.2 (by cases k <;> first | rfl | cases e)⟩
theorem fl_nx {A B : Prop} (h : A) : (Fl.nx = .nx → A) ∧ (Fl.nx ≠ .nx → B) := ⟨fun _ => h, fun e => (e rfl).elim⟩
theorem fl_rt {d : D} {A B : Prop} (h : B) : (Fl.rt d = .nx → A) ∧ (Fl.rt d ≠ .nx → B) := ⟨fun e => (nomatch e), fun _ => h⟩
theorem fl_rtL {d : List D} {A B : Prop} (h : B) : (Fl.rtL d = .nx → A) ∧ (Fl.rtL d ≠ .nx → B) := ⟨fun e => (nomatch e), fun _ => h⟩
theorem fl_br {A B : Prop} (h : B) : (Fl.br = .nx → A) ∧ (Fl.br ≠ .nx → B) := ⟨fun e => (nomatch e), fun _ => h⟩
theorem fl_co {A B : Prop} (h : B) : (Fl.co = .nx → A) ∧ (Fl.co ≠ .nx → B) := ⟨fun e => (nomatch e), fun _ => h⟩
theorem en_rt {d : D} {Q : D → List Ent → Prop} (h : Q d []) : (Fl.rt d = .nx ∧ Q .non []) ∨ ∃ e, Fl.rt d = .rt e ∧ Q e [] := .inr ⟨d, rfl, h⟩
theorem en_nx {Q : D → List Ent → Prop} (h : Q .non []) : (Fl.nx = .nx ∧ Q .non []) ∨ ∃ e, Fl.nx = .rt e ∧ Q e [] := .inl ⟨rfl, h⟩
theorem en_rtL {d : List D} {Q : D → List Ent → Prop} (h : Q (.lst d) []) : ∃ ds, Fl.rtL d = .rtL ds ∧ Q (.lst ds) [] := ⟨d, rfl, h⟩
theorem en_rtI {i : Nat} {r : List Ent} {ds : List D} {d : D} {Q : D → List Ent → Prop} (e : r[i]? = some (.cel .io ds)) (h : Q d [.cel .io ds]) : ∃ ds, r[i]? = some (.cel .io ds) ∧ ((Fl.rt d = .nx ∧ Q .non [.cel .io ds]) ∨ ∃ e, Fl.rt d = .rt e ∧ Q e [.cel .io ds]) := ⟨ds, e, .inr ⟨d, rfl, h⟩⟩
theorem it_nx {A B : Prop} {C : D → Prop} {E : List D → Prop} (h : A) : (Fl.nx = .nx ∨ Fl.nx = .co → A) ∧ (Fl.nx = .br → B) ∧ (∀ d, Fl.nx = .rt d → C d) ∧ ∀ ds, Fl.nx = .rtL ds → E ds := ⟨fun _ => h, fun e => (nomatch e), fun _ e => (nomatch e), fun _ e => (nomatch e)⟩
theorem it_co {A B : Prop} {C : D → Prop} {E : List D → Prop} (h : A) : (Fl.co = .nx ∨ Fl.co = .co → A) ∧ (Fl.co = .br → B) ∧ (∀ d, Fl.co = .rt d → C d) ∧ ∀ ds, Fl.co = .rtL ds → E ds := ⟨fun _ => h, fun e => (nomatch e), fun _ e => (nomatch e), fun _ e => (nomatch e)⟩
theorem it_br {A B : Prop} {C : D → Prop} {E : List D → Prop} (h : B) : (Fl.br = .nx ∨ Fl.br = .co → A) ∧ (Fl.br = .br → B) ∧ (∀ d, Fl.br = .rt d → C d) ∧ ∀ ds, Fl.br = .rtL ds → E ds := ⟨fun e => e.elim (fun z => (nomatch z)) (fun z => (nomatch z)), fun _ => h, fun _ e => (nomatch e), fun _ e => (nomatch e)⟩
theorem it_rt {d : D} {A B : Prop} {C : D → Prop} {E : List D → Prop} (h : C d) : (Fl.rt d = .nx ∨ Fl.rt d = .co → A) ∧ (Fl.rt d = .br → B) ∧ (∀ e, Fl.rt d = .rt e → C e) ∧ ∀ ds, Fl.rt d = .rtL ds → E ds := ⟨fun e => e.elim (fun z => (nomatch z)) (fun z => (nomatch z)), fun e => (nomatch e), fun _ e => by cases e; exact h, fun _ e => (nomatch e)⟩
theorem ex_bl {k : Bool} {P : Bool → Prop} (h : P k) : ∃ j, D.bl k = .bl j ∧ P j := ⟨k, rfl, h⟩
theorem ex_int {k : Int} {P : Int → Prop} (h : P k) : ∃ j, D.int k = .int j ∧ P j := ⟨k, rfl, h⟩
end FL
namespace FL
theorem ex_so {α : Type} {o : Option α} {k : α} {P : α → Prop} (e : o = some k) (q : P k) : ∃ j, o = some j ∧ P j := ⟨k, e, q⟩
theorem ex_sb {o : Option D} {k : Bool} {P : Bool → Prop} (e : o = some (.bl k)) (q : P k) : ∃ j, o = some (.bl j) ∧ P j := ⟨k, e, q⟩
theorem ex_sub {o : Option Ent} {k : CK} {ds es : List D} {f : List D → Option (List D)} {P : CK → List D → Prop} (e : o = some (.cel k ds)) (e2 : f ds = some es) (q : P k es) : ∃ k ds es, o = some (.cel k ds) ∧ f ds = some es ∧ P k es := ⟨k, ds, es, e, e2, q⟩
theorem ex_app {o : Option Ent} {k : CK} {ds : List D} {P : CK → List D → Prop} (e : o = some (.cel k ds)) (e2 : ds.length < most) (q : P k ds) : ∃ k ds, o = some (.cel k ds) ∧ ds.length < most ∧ P k ds := ⟨k, ds, e, e2, q⟩
theorem ex_p2 {a b : D} {A B : Prop} {P : D → D → Prop} (h1 : A) (h2 : B) (q : P a b) : ∃ d e, [a, b] = [d, e] ∧ A ∧ B ∧ P d e := ⟨a, b, rfl, h1, h2, q⟩
theorem ex_p3 {a b c : D} {A B C : Prop} {P : D → D → D → Prop} (h1 : A) (h2 : B) (h3 : C) (q : P a b c) : ∃ d e g, [a, b, c] = [d, e, g] ∧ A ∧ B ∧ C ∧ P d e g := ⟨a, b, c, rfl, h1, h2, h3, q⟩
theorem ex_call {pre post : List D} {j np n : Nat} {T : List Nat} {as : List Arg} {o : Option Ent} {k : CK} {ds : List D} {P : List D → Nat → List D → CK → List D → Prop} (h1 : splitA as = some (pre, j, post)) (h2 : as.length = np ∧ pre.length = n ∧ j ∈ T) (h3 : o = some (.cel k ds)) (q : P pre j post k ds) : True := trivial
end FL
namespace FL
open PySem PySem.Spec L2
theorem mod_ok {i j : Int} (h : 0 < j) : modD (.int i) (.int j) = some (.int (i % j)) := by
  unfold modD
  simp only
  rw [if_pos (decide_eq_true h)]
theorem div_ok {i j : Int} (h : 0 < j) (h2 : j.natAbs < 2 ^ 4096) : divD (.int i) (.int j) = some (.int (i / j)) := by
  have a := bits_lt h2
  unfold divD divOk
  simp only
  rw [if_pos (decide_eq_true ⟨h, by omega⟩)]
theorem dm_ok {i j : Int} (h : 0 < j) (h2 : j < 1073741824) : dmB [.int i, .int j] = some (.tup [.int (i / j), .int (i % j)]) := by
  unfold dmB
  simp only
  rw [if_pos (decide_eq_true ⟨h, h2⟩)]
end FL
namespace FL
open PySem PySem.Spec L2
theorem wp_lend' {α : Type} {T : List Nat} {ok : α → Bool} {m : M α} {r : List Ent} {Q : α → List Ent → Prop} {j : Nat} {k : CK} {ds : List D} (h0 : r[j]? = some (.cel k ds)) (h : Wp m (r.set j (.val (.lst ds))) fun a r1 => r1 = r.set j (.val (.lst ds)) ∧ (ok a && okT T r1) = true ∧ Q a r) : Wp (lend T j ok m) r Q := by
  refine wp_lend h0 (h.imp fun a r1 ⟨e, h1, h2⟩ => ⟨h1, ?_⟩)
  rw [e, List.set_set]
  have : r.set j (.cel k ds) = r := by
    apply List.ext_getElem?
    intro i
    rw [List.getElem?_set]
    split
    · rename_i hij
      subst hij
      rw [h0, if_pos (List.getElem?_eq_some_iff.mp h0).1]
    · rfl
  rw [this]
  exact h2
end FL
namespace FL
open PySem PySem.Spec L2
theorem wp_forc {g : D → M Unit} {b : M Fl} {d : D} {ds : List D} {r : List Ent} {Q : Fl → List Ent → Prop} (h : Wp (g d) r fun _ r1 => Wp b r1 fun fl r2 => (fl = .nx ∨ fl = .co → Wp (forD g b ds) r2 Q) ∧ (fl = .br → Q .nx r2) ∧ (∀ d, fl = .rt d → Q (.rt d) r2) ∧ ∀ ds, fl = .rtL ds → Q (.rtL ds) r2) : Wp (forD g b (d :: ds)) r Q :=
  wp_B (h.imp fun _ r1 h1 => wp_B (h1.imp fun fl r2 ⟨h2, h3, h4, h5⟩ => by
    cases fl with
    | nx => exact h2 (.inl rfl)
    | co => exact h2 (.inr rfl)
    | br => exact h3 rfl
    | rt d => exact h4 d rfl
    | rtL ds => exact h5 ds rfl))
theorem wp_forn {g : D → M Unit} {b : M Fl} {r : List Ent} {Q : Fl → List Ent → Prop} (h : Q .nx r) : Wp (forD g b []) r Q := h
theorem ix_nat {ds : List D} {i : Int} {x : D} (h0 : 0 ≤ i) (h : ds[i.toNat]? = some x) : ixD (.tup ds) (.int i) = some x := by
  have := atI_nat h
  rw [Int.toNat_of_nonneg h0] at this
  exact this
theorem ix_natL {ds : List D} {i : Int} {x : D} (h0 : 0 ≤ i) (h : ds[i.toNat]? = some x) : ixD (.lst ds) (.int i) = some x := by
  have := atI_nat h
  rw [Int.toNat_of_nonneg h0] at this
  exact this
theorem set_nat {ds : List D} {d : D} {i : Int} (h0 : 0 ≤ i) (h : i.toNat < ds.length) : setIx d (.int i) ds = some (ds.set i.toNat d) := by
  show (L2.ixN ds.length i).map _ = _
  unfold L2.ixN
  rw [if_pos h0, if_pos (by omega)]
  rfl
end FL
namespace FL
open PySem PySem.Spec L2
theorem wp_forN {g : D → M Unit} {b : M Fl} {Q : Fl → List Ent → Prop} (I : List D → List Ent → Prop) (step : ∀ d ds r, I (d :: ds) r → Wp (g d) r fun _ r1 => Wp b r1 fun fl r2 => (fl = .nx ∨ fl = .co) ∧ I ds r2) (ds : List D) (r : List Ent) (h : I ds r)
    (fin : ∀ r, I [] r → Q .nx r) : Wp (forD g b ds) r Q :=
  wp_forD I (fun d ds r h => (step d ds r h).imp fun _ r1 h1 => h1.imp fun fl r2 ⟨h2, h3⟩ => by
    rcases h2 with rfl | rfl
    · exact it_nx h3
    · exact it_co h3) fin ds r h
theorem in_nx {A : Prop} (h : A) : (Fl.nx = .nx ∨ Fl.nx = .co) ∧ A := ⟨.inl rfl, h⟩
theorem in_co {A : Prop} (h : A) : (Fl.co = .nx ∨ Fl.co = .co) ∧ A := ⟨.inr rfl, h⟩
end FL
namespace FL
open PySem PySem.Spec L2
theorem str_ok {i : Int} (h : i.natAbs < 2 ^ 64) : strB [.int i] = some (.str (toString i)) := by
  have a := bits_lt h
  unfold bitsOf at a
  unfold strB
  simp only
  rw [if_pos (decide_eq_true (by omega))]
theorem mul_tup {a : List D} {k : Int} (h : a ≠ []) (h1 : 2 ≤ k) (h2 : k ≤ 1000) (h3 : a.length ≤ 1000) : mulD (.tup a) (.int k) = some (.tup (timesL a k.toNat)) := by
  unfold mulD
  simp only
  rw [if_pos (decide_eq_true ⟨h, h1, h2, h3⟩)]
theorem times_mem {a : List D} {k : Nat} {x : D} (h : x ∈ timesL a k) : x ∈ a := by
  unfold timesL at h
  obtain ⟨l, h1, h2⟩ := List.mem_flatten.mp h
  rw [(List.mem_replicate.mp h1).2] at h2
  exact h2
end FL
namespace FL
open PySem PySem.Spec L2
section
variable {X : Cx} {W : WX} {T : List Nat} {K : PySem.W.Frag} {x : Str} {e : Expr} {es : List Expr} {p pos : Pos}
/-! ### what is never reached -/
def sBad : M Fl := fun _ => .bad
def xBad : M D := fun _ => .bad
theorem ss_bad {st : Stmt} : SS X W T st sBad := ⟨⟨fun _ _ _ => False, ⟨fun _ _ _ _ _ _ h => h.elim⟩, fun _ _ _ p => p⟩⟩
theorem se_bad {e : Expr} : SE X W T e xBad := ⟨⟨fun _ _ _ => False, ⟨fun _ _ _ _ _ _ h => h.elim⟩, fun _ _ _ p => p⟩⟩
/-- a def of which nothing is promised -/
def fBad : List Ent → R D := fun _ => .bad
theorem bad_ok {P : Program} {w : World} {K : PySem.W.Frag} {mg : Str → Option Value} {base : Heap} {x : Str} {st : Stmt} {ps : List Str} {k : Nat} {io : Option Nat} {fr : Bool} (hd : ∃ f fd, mg x = some (.ref f) ∧ Fun K x x st f fd ∧ Binds K fd ps []) : DefOk P w K mg base x st ps k io fr fBad := by
  obtain ⟨f, fd, hm, Fn, hb⟩ := hd
  refine ⟨f, fd, hm, Fn.kp, Fn, ⟨fun vs H Q E h => h.1, fun A outer s H args us vs Q E _ _ _ _ h => ?_⟩, hb⟩
  obtain ⟨_, z, _, _, _, _, hp⟩ := h
  exact (show False from hp).elim
/-! ### isinstance of several types -/
def kitAnyB (m : String) : List String → Option Bool
  | [] => some false
  | n :: ns => match kitB m n with
    | some true => some true
    | some false => kitAnyB m ns
    | none => none
def isTB (ns : List String) (d : D) : Option D := match tyN d with
  | some m => (kitAnyB m ns).map .bl
  | none => none
def xIsT (ns : List String) (m : M D) : M D := mB m fun d => mO (isTB ns d)
theorem kitAny_of {K : PySem.W.Frag} {m : String} : ∀ {ns : List String} {b : Bool}, kitAnyB m ns = some b → PySem.W.kitAny K (.type m) (ns.map Value.type) = some b
  | [], b, h => by cases h; rfl
  | n :: ns, b, h => by
    unfold kitAnyB at h
    cases q : kitB m n with
    | none => rw [q] at h; cases h
    | some c =>
      rw [q] at h
      cases c with
      | true => cases h; exact kitAny_cons (kit_ty q) (fun z => nomatch z) (fun _ => rfl)
      | false => exact kitAny_cons (kit_ty q) (fun _ => kitAny_of h) (fun z => nomatch z)
theorem rep_tys {F : Hp} : ∀ {ns : List String} {vs : List V}, RepL K F vs (ns.map fun n => D.opq (.ty n)) → vs = ns.map V.ty
  | [], _, .nil => rfl
  | n :: ns, _, .cons h r => by
    cases h
    rw [rep_tys r]
    rfl
theorem cls_tys : ∀ ns : List String, Paired ClsV (ns.map V.ty) (ns.map Value.type)
  | [] => .nil
  | n :: ns => .cons (.ty n) (cls_tys ns)
theorem se_isT (ns : List String) {tes : List Expr} {x1 : _} {tp : Pos} {f : M D} (hm : X.mg "isinstance" = none) (ha : SE X W T e f) (ht : SD X W T tes (mP (ns.map fun n => D.opq (.ty n)))) (hl : decide (ns.length ≤ most) = true) (hv : bootBuiltins "isinstance" = some (.builtin "isinstance")) (hg : Gl X "isinstance" := by rfl)
    (h1 : starEach (e :: [Expr.Tuple tes x1 tp]) X.env = (false, eval e X.env) :: starEach [Expr.Tuple tes x1 tp] X.env := by rfl) (h2 : starEach (Expr.Tuple tes x1 tp :: []) X.env = (false, eval (Expr.Tuple tes x1 tp) X.env) :: starEach [] X.env := by rfl)
    (hpl : (backTo pos (starEach [Expr.Tuple tes x1 tp] X.env)).any (·.1) = false := by rfl) : SE X W T (.Call (.Name "isinstance" p) [e, .Tuple tes x1 tp] [] pos) (xIsT ns f) := by
  obtain ⟨te, pe, ev⟩ := ha.ex
  obtain ⟨tt, pt, et⟩ := ht.ex
  refine ⟨_, pe_callB call_isiT hg hm hv (pa_cons pe (pa_cons (pe_tup pt) pa_nil h2) h1) (by decide) (by decide) h1 hpl, fun x Q s p => ?_⟩
  refine ev.bind s p fun d y f1 s1 e1 v hv p1 => ?_
  show tt x.s y.H _
  rw [← e1]
  refine et y _ s1 ?_
  intro y2 hy2 f2 s2 e2 vs hvs
  have evs := rep_tys hvs
  subst evs
  refine ⟨by rw [List.length_map]; exact of_most hl, fun q hq => ?_⟩
  obtain ⟨g1, g2⟩ := ext_tup (ds := ns.map fun n => D.opq (.ty n)) s2 hq hvs
  cases c : isTB ns d with
  | none => rw [c] at p1; exact p1.elim
  | some z =>
    rw [c] at p1
    unfold isTB at c
    split at c
    · rename_i m hm
      cases c2 : kitAnyB m ns with
      | none => rw [c2] at c; cases c
      | some b =>
        rw [c2] at c
        cases c
        refine ⟨v, q, ns.map V.ty, .type m, ns.map Value.type, b, rfl, upd_same, cls_tys ns, tyX_of (g1.rst s2).sub ((hv.mono f2.ff).mono g1.ff) hm, kitAny_of c2, ?_⟩
        exact p1 _ (g1.r.trans hy2) (f2.trans (g1.fr T)) (g1.rst s2) (g1.s.trans (e2.trans e1)) _ (.bl b)
    · cases c
end
end FL
namespace FL
open PySem PySem.Spec L2
/-! ### fractions -/
def fr (q : Rat) : D := .tup [.int q.num, .int q.den]
def fracB : D → Bool
  | .tup [.int n, .int m] => decide (0 < m) && decide (Nat.gcd n.natAbs m.natAbs = 1)
  | _ => false
theorem fracB_fr (q : Rat) : fracB (fr q) = true := by
  show (decide (0 < (q.den : Int)) && decide (Nat.gcd q.num.natAbs (q.den : Int).natAbs = 1)) = true
  rw [decide_eq_true (show 0 < (q.den : Int) from by have := q.den_pos; omega), Int.natAbs_natCast, decide_eq_true (show Nat.gcd q.num.natAbs q.den = 1 from q.reduced)]
  rfl
theorem fr_of {d : D} (h : fracB d = true) : ∃ q, d = fr q := by
  unfold fracB at h
  split at h
  · rename_i n m
    simp only [Bool.and_eq_true, decide_eq_true_eq] at h
    obtain ⟨h1, h2⟩ := h
    refine ⟨⟨n, m.toNat, by omega, ?_⟩, ?_⟩
    · rw [Nat.Coprime, ← h2]
      congr 1
      omega
    · unfold fr
      show D.tup [.int n, .int m] = .tup [.int n, .int (m.toNat : Int)]
      rw [Int.toNat_of_nonneg (by omega)]
  · cases h
/-- what is shortened -/
theorem part_fr {n m : Int} (h : 0 < m) : D.tup [.int (n / (Nat.gcd n.natAbs m.natAbs : Nat)), .int (m / (Nat.gcd n.natAbs m.natAbs : Nat))] = fr (Rat.divInt n m) := by
  unfold fr
  rw [Rat.num_divInt, Rat.den_divInt, if_neg (by omega), Int.sign_eq_one_of_pos h, Int.one_mul]
  have e : m.gcd n = Nat.gcd n.natAbs m.natAbs := by unfold Int.gcd; exact Nat.gcd_comm ..
  rw [e]
  congr 3
  have : (m.natAbs : Int) = m := by omega
  rw [← this, Int.natAbs_natCast, Int.natCast_ediv]
theorem den_le {n m : Int} (h : 0 < m) : ((Rat.divInt n m).den : Int) ≤ m := by
  rw [Rat.den_divInt, if_neg (by omega)]
  have := Nat.div_le_self m.natAbs (m.gcd n)
  omega
theorem add_fr (a b : Rat) : Rat.divInt (a.num * b.den + b.num * a.den) (a.den * b.den) = a + b := by
  rw [Rat.add_def', ← Rat.divInt_ofNat, Int.natCast_mul]
theorem sub_fr (a b : Rat) : Rat.divInt (a.num * b.den - b.num * a.den) (a.den * b.den) = a - b := by
  rw [Rat.sub_def', ← Rat.divInt_ofNat, Int.natCast_mul]
theorem mul_fr (a b : Rat) : Rat.divInt (a.num * b.num) (a.den * b.den) = a * b := by
  rw [Rat.mul_def', ← Rat.divInt_ofNat, Int.natCast_mul]
/-- Euclid's steps: room for 2 k + 1 where the second is below 2 ^ k -/
theorem half_mod {a b : Int} (h0 : 0 ≤ a) (h : 0 < b) (hb : b ≤ a) : 2 * (a % b) ≤ a := by
  have h1 := Int.emod_lt_of_pos a h
  have h2 := Int.emod_nonneg a (show b ≠ 0 by omega)
  have h3 := Int.mul_ediv_add_emod a b
  have h4 : 1 ≤ a / b := by
    have := Int.ediv_le_ediv h hb
    rw [Int.ediv_self (by omega)] at this
    exact this
  have h5 : b * 1 ≤ b * (a / b) := Int.mul_le_mul_of_nonneg_left h4 (by omega)
  omega
end FL
namespace FL
def Btw (lo hi : Int) (q : Rat) : Prop := lo * q.den ≤ q.num ∧ q.num ≤ hi * q.den
theorem cross {n m : Int} (h : 0 < m) : (Rat.divInt n m).num * m = n * (Rat.divInt n m).den := by
  have h1 := Rat.num_divInt_den (Rat.divInt n m)
  have d := (Rat.divInt n m).den_pos
  exact (Rat.divInt_eq_divInt_iff (by omega) (by omega)).mp h1
theorem btw_div {lo hi n m : Int} (h : 0 < m) (h1 : lo * m ≤ n) (h2 : n ≤ hi * m) : Btw lo hi (Rat.divInt n m) := by
  have c := cross (n := n) h
  have d := (Rat.divInt n m).den_pos
  unfold Btw
  generalize (Rat.divInt n m).num = a at *
  generalize (Rat.divInt n m).den = b at *
  have d' : (0 : Int) < b := by omega
  constructor
  · have : lo * b * m ≤ a * m := by
      rw [c, show lo * b * m = lo * m * b by rw [Int.mul_assoc, Int.mul_comm (b : Int) m, ← Int.mul_assoc]]
      exact Int.mul_le_mul_of_nonneg_right h1 (by omega)
    exact Int.le_of_mul_le_mul_right this h
  · have : a * m ≤ hi * b * m := by
      rw [c, show hi * b * m = hi * m * b by rw [Int.mul_assoc, Int.mul_comm (b : Int) m, ← Int.mul_assoc]]
      exact Int.mul_le_mul_of_nonneg_right h2 (by omega)
    exact Int.le_of_mul_le_mul_right this h
theorem btw_rat {lo hi : Int} {q : Rat} : Btw lo hi q ↔ ((lo : Rat) ≤ q ∧ q ≤ (hi : Rat)) := by
  unfold Btw
  rw [Rat.le_iff, Rat.le_iff]
  show _ ↔ (lo * (q.den : Int) ≤ q.num * ((1 : Nat) : Int) ∧ q.num * ((1 : Nat) : Int) ≤ hi * (q.den : Int))
  omega
/-- a share of the way between two -/
theorem btw_mix {lo hi : Int} {a b t : Rat} (ha : Btw lo hi a) (hb : Btw lo hi b) (t0 : 0 ≤ t) (t1 : t ≤ 1) : Btw lo hi (a + t * (b - a)) := by
  rw [btw_rat] at *
  have u0 : 0 ≤ 1 - t := by grind
  have h1 := Rat.mul_le_mul_of_nonneg_left ha.1 u0
  have h2 := Rat.mul_le_mul_of_nonneg_left hb.1 t0
  have h3 := Rat.mul_le_mul_of_nonneg_left ha.2 u0
  have h4 := Rat.mul_le_mul_of_nonneg_left hb.2 t0
  constructor <;> grind
end FL
namespace FL
open PySem PySem.Spec L2
theorem wp_noX {α : Type} {m : M α} {r : List Ent} {Q : α → List Ent → Prop} (h : Wp m r Q) : Wp (noX m) r Q := by
  unfold Wp at *
  unfold noX
  cases e : m r with
  | ok a o => rw [e] at h; exact h
  | exc c p o => rw [e] at h; exact h.elim
  | bad => rw [e] at h; exact h.elim
/-- a comprehension, by an invariant: what is left, what is made, the state -/
theorem wp_compJD {vs : List Nat} {g : D → M Unit} {t : M Bool} {e : M D} (J : List D → List D → List Ent → Prop) (step : ∀ d ds acc r, J (d :: ds) acc r → Wp (g d) r fun _ r1 => Wp t r1 fun k r2 => (k = true → Wp e r2 fun y r3 => J ds (acc ++ [y]) (wipeE r3 vs)) ∧ (k = false → J ds acc (wipeE r2 vs))) :
    ∀ (ds acc : List D) (r : List Ent) (Q : List D → List Ent → Prop), J ds acc r → acc.length + ds.length ≤ most → (∀ acc r, J [] acc r → Q acc r) → Wp (compD vs g t e ds acc) r Q
  | [], acc, r, Q, h, _, q => q acc r h
  | d :: ds, acc, r, Q, h, hl, q => by
    rw [List.length_cons] at hl
    refine wp_B (wp_noX ((step d ds acc r h).imp fun _ r1 h2 => wp_B (wp_noX (h2.imp fun k r2 ⟨h4, h5⟩ => ?_))))
    cases k with
    | true =>
      refine wp_B (wp_noX ((h4 rfl).imp fun y r3 h6 => ?_))
      have h8 : decide (acc.length < most) = true := decide_eq_true (by omega)
      show Wp (fun r => if decide (acc.length < most) then compD vs g t e ds (acc ++ [y]) (wipeE r vs) else .bad) r3 Q
      unfold Wp
      simp only [h8, if_true]
      exact wp_compJD J step ds (acc ++ [y]) _ Q h6 (by rw [List.length_append, List.length_singleton]; omega) q
    | false =>
      show Wp (fun r => compD vs g t e ds acc (wipeE r vs)) r2 Q
      unfold Wp
      exact wp_compJD J step ds acc _ Q (h5 rfl) (by omega) q
theorem wp_compJ {vs : List Nat} {it : M (List D)} {g : D → M Unit} {t : M Bool} {e : M D} {r : List Ent} {Q : List D → List Ent → Prop} (J : List D → List D → List Ent → Prop)
    (h : Wp it r fun ds r1 => noCel vs r1 = true ∧ ds.length ≤ most ∧ J ds [] (wipeE r1 vs) ∧ (∀ d ds acc r, J (d :: ds) acc r → Wp (g d) r fun _ r1 => Wp t r1 fun k r2 => (k = true → Wp e r2 fun y r3 => J ds (acc ++ [y]) (wipeE r3 vs)) ∧ (k = false → J ds acc (wipeE r2 vs))) ∧ ∀ acc r2, J [] acc r2 → Q acc (putBack r1 r2 vs)) : Wp (lComp vs it g t e) r Q :=
  wp_B (h.imp fun ds r1 ⟨h1, h2, h3, h4, h5⟩ => by
    have := wp_compJD (vs := vs) (g := g) (t := t) (e := e) J h4 ds [] (wipeE r1 vs) (fun a r2 => Q a (putBack r1 r2 vs)) h3 (by simpa using h2) h5
    unfold Wp at *
    simp only [h1, if_true]
    cases q : compD vs g t e ds [] (wipeE r1 vs) with
    | ok a o => rw [q] at this; exact this
    | exc c p o => rw [q] at this; exact this.elim
    | bad => rw [q] at this; exact this.elim)
end FL
namespace FL
open PySem PySem.Spec L2
/-- is_whole(value): slots value -/
def B_is_whole : M Fl := (sRet (xAnd (xB isB (dCons (xVar 0) (dCons (xC (.opq (.ty "int"))) (mP [])))) (xNot (xB isB (dCons (xVar 0) (dCons (xC (.opq (.ty "bool"))) (mP [])))))))
def F_is_whole : List Ent → R D := defF none false 1 B_is_whole
/-- is_between(value, low, high): slots value, low, high -/
def B_is_between : M Fl := (sRet (xAnd (callD 1 F_is_whole (dCons (xVar 0) (mP []))) (xChain leD leD (xVar 1) (xVar 0) (xVar 2))))
def F_is_between : List Ent → R D := defF none false 3 B_is_between
/-- is_tuple_of(value, many): slots value, many -/
def B_is_tuple_of : M Fl := (sRet (xAnd (xB isB (dCons (xVar 0) (dCons (xC (.opq (.ty "tuple"))) (mP [])))) (x2 eqD (xB lenB (dCons (xVar 0) (mP []))) (xVar 1))))
def F_is_tuple_of : List Ent → R D := defF none false 2 B_is_tuple_of
/-- is_fraction_by(value): slots value -/
def B_is_fraction_by : M Fl := (sSeq (sIf (tOrM (tNotM (mTru (callD 2 F_is_tuple_of (dCons (xVar 0) (dCons (xC (.int 2)) (mP [])))))) (tOrM (tNotM (mTru (callD 1 F_is_whole (dCons (x2 ixD (xVar 0) (xC (.int 0))) (mP []))))) (tOrM (tNotM (mTru (callD 1 F_is_whole (dCons (x2 ixD (xVar 0) (xC (.int 1))) (mP []))))) (mT (x2 leD (x2 ixD (xVar 0) (xC (.int 1))) (xC (.int 0))))))) (sRet (xC (.bl false))) (mP .nx)) (sRet (x2 eqD (xB gcdB (dCons (x2 ixD (xVar 0) (xC (.int 0))) (dCons (x2 ixD (xVar 0) (xC (.int 1))) (mP [])))) (xC (.int 1)))))
def F_is_fraction_by : List Ent → R D := defF none false 1 B_is_fraction_by
/-- first_wrong__is_fraction_by(value, fewest, most, is_right): slots value, fewest, most, is_right, index, each -/
def B_first_wrong__is_fraction_by : M Fl := (sSeq (sIf (tOrM (tNotM (mTru (xB isB (dCons (xVar 0) (dCons (xC (.opq (.ty "tuple"))) (mP [])))))) (tNotM (mT (xChain leD leD (xVar 1) (xB lenB (dCons (xVar 0) (mP []))) (xVar 2))))) (sRet (xFz (lLst (dCons (xC .non) (mP []))))) (mP .nx)) (sRet (xCut (xFz (lComp [4, 5] (iOf enum1 (dCons (xVar 0) (mP []))) (gsTup 2 (gsCons (setv 4) (gsCons (setv 5) gsNil))) (tNotM (mTru (callP 3 "is_fraction_by" 1 F_is_fraction_by (dCons (xVar 5) (mP []))))) (xVar 4))) (mP none) (oInt (xC (.int 1))))))
def F_first_wrong__is_fraction_by : List Ent → R D := defF none false 6 B_first_wrong__is_fraction_by
/-- is_pair_by(value): slots value -/
def B_is_pair_by : M Fl := (sSeq (sIf (tOrM (tNotM (mTru (callD 2 F_is_tuple_of (dCons (xVar 0) (dCons (xC (.int 2)) (mP [])))))) (tNotM (mTru (callD 3 F_is_between (dCons (x2 ixD (xVar 0) (xC (.int 0))) (dCons (x1 negD (xC (.int 9999))) (dCons (xC (.int 9999)) (mP [])))))))) (sRet (xC (.bl false))) (mP .nx)) (sRet (callD 3 F_is_between (dCons (x2 ixD (xVar 0) (xC (.int 1))) (dCons (x2 ixD (xVar 0) (xC (.int 0))) (dCons (xC (.int 9999)) (mP [])))))))
def F_is_pair_by : List Ent → R D := defF none false 1 B_is_pair_by
/-- first_wrong__is_pair_by(value, fewest, most, is_right): slots value, fewest, most, is_right, index, each -/
def B_first_wrong__is_pair_by : M Fl := (sSeq (sIf (tOrM (tNotM (mTru (xB isB (dCons (xVar 0) (dCons (xC (.opq (.ty "tuple"))) (mP [])))))) (tNotM (mT (xChain leD leD (xVar 1) (xB lenB (dCons (xVar 0) (mP []))) (xVar 2))))) (sRet (xFz (lLst (dCons (xC .non) (mP []))))) (mP .nx)) (sRet (xCut (xFz (lComp [4, 5] (iOf enum1 (dCons (xVar 0) (mP []))) (gsTup 2 (gsCons (setv 4) (gsCons (setv 5) gsNil))) (tNotM (mTru (callP 3 "is_pair_by" 1 F_is_pair_by (dCons (xVar 5) (mP []))))) (xVar 4))) (mP none) (oInt (xC (.int 1))))))
def F_first_wrong__is_pair_by : List Ent → R D := defF none false 6 B_first_wrong__is_pair_by
/-- whole(number): slots number -/
def B_whole : M Fl := (sRet (xTup (dCons (xVar 0) (dCons (xC (.int 1)) (mP [])))))
def F_whole : List Ent → R D := defF none false 1 B_whole
/-- is_less(one, two): slots one, two -/
def B_is_less : M Fl := (sRet (x2 ltD (x2 mulD (x2 ixD (xVar 0) (xC (.int 0))) (x2 ixD (xVar 1) (xC (.int 1)))) (x2 mulD (x2 ixD (xVar 1) (xC (.int 0))) (x2 ixD (xVar 0) (xC (.int 1))))))
def F_is_less : List Ent → R D := defF none false 2 B_is_less
/-- are_bounds_by(value): slots value -/
def B_are_bounds_by : M Fl := (sSeq (sIf (mT (x2 neD (callD 4 F_first_wrong__is_pair_by (dCons (xVar 0) (dCons (xC (.int 2)) (dCons (xC (.int 9)) (dCons (xC (.dfn "is_pair_by")) (mP [])))))) (xFz (lLst (mP []))))) (sRet (xC (.bl false))) (mP .nx)) (sRet (xAnd (x2 eqD (x2 ixD (x2 ixD (xVar 0) (xC (.int 0))) (xC (.int 0))) (x2 ixD (x2 ixD (xVar 0) (xC (.int 0))) (xC (.int 1)))) (x2 eqD (x2 ixD (x2 ixD (xVar 0) (x1 negD (xC (.int 1)))) (xC (.int 0))) (x2 ixD (x2 ixD (xVar 0) (x1 negD (xC (.int 1)))) (xC (.int 1)))))))
def F_are_bounds_by : List Ent → R D := defF none false 1 B_are_bounds_by
/-- is_run_by(value): slots value -/
def B_is_run_by : M Fl := (sRet (x2 eqD (callD 4 F_first_wrong__is_fraction_by (dCons (xVar 0) (dCons (xC (.int 2)) (dCons (xC (.int 9)) (dCons (xC (.dfn "is_fraction_by")) (mP [])))))) (xFz (lLst (mP [])))))
def F_is_run_by : List Ent → R D := defF none false 1 B_is_run_by
/-- is_height_within(pair, height): slots pair, height -/
def B_is_height_within : M Fl := (sRet (xAnd (xNot (callD 2 F_is_less (dCons (xVar 1) (dCons (callD 1 F_whole (dCons (x2 ixD (xVar 0) (xC (.int 0))) (mP []))) (mP []))))) (xNot (callD 2 F_is_less (dCons (callD 1 F_whole (dCons (x2 ixD (xVar 0) (xC (.int 1))) (mP []))) (dCons (xVar 1) (mP [])))))))
def F_is_height_within : List Ent → R D := defF none false 2 B_is_height_within
/-- first_without(bounds, run): slots bounds, run, at, height -/
def B_first_without : M Fl := (sRet (xCut (xFz (lComp [2, 3] (iOf enum1 (dCons (xVar 1) (mP []))) (gsTup 2 (gsCons (setv 2) (gsCons (setv 3) gsNil))) (tNotM (mTru (callD 2 F_is_height_within (dCons (x2 ixD (xVar 0) (xVar 2)) (dCons (xVar 3) (mP [])))))) (xVar 2))) (mP none) (oInt (xC (.int 1)))))
def F_first_without : List Ent → R D := defF none false 4 B_first_without
/-- check_bounds(value): slots value -/
def B_check_bounds : M Fl := (sIf (tNotM (mTru (callD 1 F_are_bounds_by (dCons (xVar 0) (mP []))))) sBad (mP .nx))
def F_check_bounds : List Ent → R D := defF none false 1 B_check_bounds
/-- check_run(value): slots value -/
def B_check_run : M Fl := (sIf (tNotM (mTru (callD 1 F_is_run_by (dCons (xVar 0) (mP []))))) sBad (mP .nx))
def F_check_run : List Ent → R D := defF none false 1 B_check_run
/-- check_run_of(bounds, run): slots bounds, run -/
def B_check_run_of : M Fl := (sSeq (sExpr (callD 1 F_check_bounds (dCons (xVar 0) (mP [])))) (sSeq (sExpr (callD 1 F_check_run (dCons (xVar 1) (mP [])))) (sIf (mT (x2 neD (xB lenB (dCons (xVar 1) (mP []))) (xB lenB (dCons (xVar 0) (mP []))))) sBad (mP .nx))))
def F_check_run_of : List Ent → R D := defF none false 2 B_check_run_of
/-- is_run(value): slots value -/
def B_is_run : M Fl := (sRet (callD 1 F_is_run_by (dCons (xVar 0) (mP []))))
def F_is_run : List Ent → R D := defF none false 1 B_is_run
/-- is_within(bounds, run): slots bounds, run -/
def B_is_within : M Fl := (sSeq (sExpr (callD 2 F_check_run_of (dCons (xVar 0) (dCons (xVar 1) (mP []))))) (sRet (x2 eqD (callD 2 F_first_without (dCons (xVar 0) (dCons (xVar 1) (mP [])))) (xFz (lLst (mP []))))))
def F_is_within : List Ent → R D := defF none false 2 B_is_within
/-- _law_well(script, lap): slots script, lap, own, stir, each -/
def B__law_well : M Fl := (sSeq (sSet 2 (xIf (mT (x2 ltD (xVar 1) (xB lenB (dCons (xVar 0) (mP []))))) (xB intB (dCons (x2 ixD (xVar 0) (xVar 1)) (mP []))) (xC (.int 0)))) (sSeq (sSet 3 (x2 addD (xC (.int 7919)) (x2 mulD (xC (.int 104729)) (xVar 1)))) (sSeq (sFor (iRow (x2 addD (xCut (xVar 0) (mP none) (oInt (xC (.int 6)))) (xFz (lLst (dCons (xVar 2) (mP [])))))) (setv 4) (sSet 3 (x2 modD (xB intB (dCons (x2 addD (x2 addD (x2 mulD (xVar 3) (xC (.int 48271))) (x2 modD (xB intB (dCons (xVar 4) (mP []))) (xC (.int 2147483629)))) (xC (.int 17))) (mP []))) (xC (.int 2147483647))))) (sRetL (lLst (dCons (xIf (tOrM (mT (x2 ltD (xVar 2) (xC (.int 0)))) (mT (x2 geD (xVar 2) (x2 powD (xC (.int 10)) (xC (.int 18)))))) (xB absB (dCons (xVar 2) (mP []))) (xC (.int 0))) (dCons (xVar 3) (dCons (xC (.int 0)) (mP [])))))))))
def F__law_well : List Ent → R D := defF none true 5 B__law_well
/-- _law_take(well, many): slots well, many, told, span -/
def B__law_take : M Fl := (sSeq (sIf (mT (x2 gtD (lend [] 0 noLst (x2 ixD (xVar 0) (xC (.int 0)))) (xC (.int 0)))) (sSeq (sAsg (xB dmB (dCons (lend [] 0 noLst (x2 ixD (xVar 0) (xC (.int 0)))) (dCons (xVar 1) (mP [])))) (gsTup 2 (gsCons (gsSub 0 (xC (.int 0))) (gsCons (setv 2) gsNil)))) (sRet (xVar 2))) (mP .nx)) (sSeq (sAsg (xTup (dCons (xC (.int 0)) (dCons (xC (.int 1)) (mP [])))) (gsTup 2 (gsCons (setv 2) (gsCons (setv 3) gsNil)))) (sSeq (whileD (mT (x2 ltD (xVar 3) (x2 mulD (xC (.int 65536)) (xVar 1)))) (sSeq (sAsg (x2 addD (lend [] 0 noLst (x2 ixD (xVar 0) (xC (.int 2)))) (xC (.int 1))) (gsSub 0 (xC (.int 2)))) (sSeq (sAsg (x2 modD (xB intB (dCons (x2 addD (x2 addD (x2 mulD (lend [] 0 noLst (x2 ixD (xVar 0) (xC (.int 1)))) (xC (.int 69621))) (x2 mulD (lend [] 0 noLst (x2 ixD (xVar 0) (xC (.int 2)))) (xC (.int 40692)))) (xC (.int 5))) (mP []))) (xC (.int 2147483629))) (gsSub 0 (xC (.int 1)))) (sPar2 2 3 (dCons (x2 addD (x2 mulD (xVar 2) (xC (.int 65536))) (x2 modD (xB intB (dCons (x2 divD (lend [] 0 noLst (x2 ixD (xVar 0) (xC (.int 1)))) (xC (.int 64))) (mP []))) (xC (.int 65536)))) (dCons (x2 mulD (xVar 3) (xC (.int 65536))) (mP [])))))) 1000) (sRet (x2 modD (xB intB (dCons (xVar 2) (mP []))) (xVar 1))))))
def F__law_take : List Ent → R D := defF (some 0) false 4 B__law_take
/-- _law_says(told, due): slots told, due -/
def B__law_says : M Fl := (sRet (xAnd (xB isB (dCons (xVar 0) (dCons (xC (.opq (.ty "bool"))) (mP [])))) (x2 eqD (xVar 0) (xVar 1))))
def F__law_says : List Ent → R D := defF none false 2 B__law_says
/-- _law_whole(value): slots value -/
def B__law_whole : M Fl := (sRet (xAnd (xB isB (dCons (xVar 0) (dCons (xC (.opq (.ty "int"))) (mP [])))) (xNot (xB isB (dCons (xVar 0) (dCons (xC (.opq (.ty "bool"))) (mP [])))))))
def F__law_whole : List Ent → R D := defF none false 1 B__law_whole
/-- _law_common(one, two): slots one, two -/
def B__law_common : M Fl := (sSeq (sPar2 0 1 (dCons (xB absB (dCons (xVar 0) (mP []))) (dCons (xB absB (dCons (xVar 1) (mP []))) (mP [])))) (sSeq (whileD (mT (x2 gtD (xVar 1) (xC (.int 0)))) (sPar2 0 1 (dCons (xVar 1) (dCons (x2 modD (xB intB (dCons (xVar 0) (mP []))) (xVar 1)) (mP [])))) 1000) (sRet (xVar 0))))
def F__law_common : List Ent → R D := defF none false 2 B__law_common
/-- _law_part(upper, low): slots upper, low, by -/
def B__law_part : M Fl := (sSeq (sIf (mT (x2 ltD (xVar 1) (xC (.int 0)))) (sPar2 0 1 (dCons (x1 negD (xVar 0)) (dCons (x1 negD (xVar 1)) (mP [])))) (mP .nx)) (sSeq (sSet 2 (callD 2 F__law_common (dCons (xVar 0) (dCons (xVar 1) (mP []))))) (sRet (xTup (dCons (x2 divD (xVar 0) (xVar 2)) (dCons (x2 divD (xVar 1) (xVar 2)) (mP [])))))))
def F__law_part : List Ent → R D := defF none false 3 B__law_part
/-- _law_plus(one, two): slots one, two -/
def B__law_plus : M Fl := (sRet (callD 2 F__law_part (dCons (x2 addD (x2 mulD (x2 ixD (xVar 0) (xC (.int 0))) (x2 ixD (xVar 1) (xC (.int 1)))) (x2 mulD (x2 ixD (xVar 1) (xC (.int 0))) (x2 ixD (xVar 0) (xC (.int 1))))) (dCons (x2 mulD (x2 ixD (xVar 0) (xC (.int 1))) (x2 ixD (xVar 1) (xC (.int 1)))) (mP [])))))
def F__law_plus : List Ent → R D := defF none false 2 B__law_plus
/-- _law_minus(one, two): slots one, two -/
def B__law_minus : M Fl := (sRet (callD 2 F__law_part (dCons (x2 subD (x2 mulD (x2 ixD (xVar 0) (xC (.int 0))) (x2 ixD (xVar 1) (xC (.int 1)))) (x2 mulD (x2 ixD (xVar 1) (xC (.int 0))) (x2 ixD (xVar 0) (xC (.int 1))))) (dCons (x2 mulD (x2 ixD (xVar 0) (xC (.int 1))) (x2 ixD (xVar 1) (xC (.int 1)))) (mP [])))))
def F__law_minus : List Ent → R D := defF none false 2 B__law_minus
/-- _law_times(one, two): slots one, two -/
def B__law_times : M Fl := (sRet (callD 2 F__law_part (dCons (x2 mulD (x2 ixD (xVar 0) (xC (.int 0))) (x2 ixD (xVar 1) (xC (.int 0)))) (dCons (x2 mulD (x2 ixD (xVar 0) (xC (.int 1))) (x2 ixD (xVar 1) (xC (.int 1)))) (mP [])))))
def F__law_times : List Ent → R D := defF none false 2 B__law_times
/-- _law_put(row, at, value): slots row, at, value -/
def B__law_put : M Fl := (sRet (x2 addD (x2 addD (xCut (xVar 0) (mP none) (oInt (xVar 1))) (xTup (dCons (xVar 2) (mP [])))) (xCut (xVar 0) (oInt (x2 addD (xVar 1) (xC (.int 1)))) (mP none))))
def F__law_put : List Ent → R D := defF none false 3 B__law_put
/-- _law_less(one, two): slots one, two -/
def B__law_less : M Fl := (sRet (x2 ltD (x2 mulD (x2 ixD (xVar 0) (xC (.int 0))) (x2 ixD (xVar 1) (xC (.int 1)))) (x2 mulD (x2 ixD (xVar 1) (xC (.int 0))) (x2 ixD (xVar 0) (xC (.int 1))))))
def F__law_less : List Ent → R D := defF none false 2 B__law_less
/-- _law_is_fraction(value): slots value -/
def B__law_is_fraction : M Fl := (sRet (xAnd (xB isB (dCons (xVar 0) (dCons (xC (.opq (.ty "tuple"))) (mP [])))) (xAnd (x2 eqD (xB lenB (dCons (xVar 0) (mP []))) (xC (.int 2))) (xAnd (callD 1 F__law_whole (dCons (x2 ixD (xVar 0) (xC (.int 0))) (mP []))) (xAnd (callD 1 F__law_whole (dCons (x2 ixD (xVar 0) (xC (.int 1))) (mP []))) (xAnd (x2 gtD (x2 ixD (xVar 0) (xC (.int 1))) (xC (.int 0))) (x2 eqD (callD 2 F__law_common (dCons (x2 ixD (xVar 0) (xC (.int 0))) (dCons (x2 ixD (xVar 0) (xC (.int 1))) (mP [])))) (xC (.int 1)))))))))
def F__law_is_fraction : List Ent → R D := defF none false 1 B__law_is_fraction
/-- _law_is_row(value, many): slots value, many, each -/
def B__law_is_row : M Fl := (sRet (xAnd (xB isB (dCons (xVar 0) (dCons (xC (.opq (.ty "tuple"))) (mP [])))) (xAnd (x2 eqD (xB lenB (dCons (xVar 0) (mP []))) (xVar 1)) (xB allB (dCons (xFz (lComp [2] (iRow (xVar 0)) (setv 2) (mP true) (callD 1 F__law_is_fraction (dCons (xVar 2) (mP []))))) (mP []))))))
def F__law_is_row : List Ent → R D := defF none false 3 B__law_is_row
/-- _law_bounds(well, many): slots well, many, k, high, wide, kind, rows, here, low, each, at -/
def B__law_bounds : M Fl := (sSeq (sPar3 3 4 5 (dCons (x2 ixD (xTup (dCons (xC (.int 3)) (dCons (xC (.int 20)) (dCons (xC (.int 900)) (mP []))))) (callI 2 0 [0, 1, 2, 3, 4, 5, 6, 7, 8, 9, 10] F__law_take (aLate 0 (aVal (xC (.int 3)) (mP []))))) (dCons (x2 ixD (xTup (dCons (xC (.int 1)) (dCons (xC (.int 4)) (dCons (xC (.int 30)) (mP []))))) (callI 2 0 [0, 1, 2, 3, 4, 5, 6, 7, 8, 9, 10] F__law_take (aLate 0 (aVal (xC (.int 3)) (mP []))))) (dCons (callI 2 0 [0, 1, 2, 3, 4, 5, 6, 7, 8, 9, 10] F__law_take (aLate 0 (aVal (xC (.int 5)) (mP [])))) (mP []))))) (sSeq (sParN [6, 7] (pNew (lLst (mP [])) (pVal (x2 subD (callI 2 0 [0, 1, 2, 3, 4, 5, 6, 7, 8, 9, 10] F__law_take (aLate 0 (aVal (x2 addD (x2 mulD (xC (.int 2)) (xVar 3)) (xC (.int 1))) (mP [])))) (xVar 3)) (mP [])))) (sSeq (sFor (iOf range1 (dCons (xVar 1) (mP []))) (setv 2) (sSeq (sSet 8 (xIf (mT (x2 eqD (xVar 5) (xC (.int 0)))) (xVar 7) (xIf (mT (x2 ltD (xVar 5) (xC (.int 3)))) (x2 subD (callI 2 0 [0, 1, 2, 3, 4, 5, 6, 7, 8, 9, 10] F__law_take (aLate 0 (aVal (x2 addD (x2 mulD (xC (.int 2)) (xVar 3)) (xC (.int 1))) (mP [])))) (xVar 3)) (x2 subD (x2 addD (xVar 7) (callI 2 0 [0, 1, 2, 3, 4, 5, 6, 7, 8, 9, 10] F__law_take (aLate 0 (aVal (xC (.int 3)) (mP []))))) (xC (.int 1)))))) (sSeq (sSet 7 (xIf (mT (x2 gtD (xVar 5) (xC (.int 2)))) (xVar 8) (xVar 7))) (sApp 6 (xTup (dCons (xVar 8) (dCons (x2 addD (xVar 8) (callI 2 0 [0, 1, 2, 3, 4, 5, 6, 7, 8, 9, 10] F__law_take (aLate 0 (aVal (x2 addD (xVar 4) (xC (.int 1))) (mP []))))) (mP [])))))))) (sSeq (sFor (iRow (xTup (dCons (xC (.int 0)) (dCons (x2 subD (xVar 1) (xC (.int 1))) (mP []))))) (setv 2) (sSeq (sSet 9 (x2 ixD (lend [] 6 noLst (x2 ixD (xVar 6) (xVar 2))) (callI 2 0 [0, 1, 2, 3, 4, 5, 6, 7, 8, 9, 10] F__law_take (aLate 0 (aVal (xC (.int 2)) (mP [])))))) (sAsg (xTup (dCons (xVar 9) (dCons (xVar 9) (mP [])))) (gsSub 6 (xVar 2))))) (sSeq (sIf (tAndM (mT (x2 eqD (xVar 5) (xC (.int 4)))) (mT (x2 gtD (xVar 1) (xC (.int 2))))) (sSeq (sSet 10 (x2 addD (xC (.int 1)) (callI 2 0 [0, 1, 2, 3, 4, 5, 6, 7, 8, 9, 10] F__law_take (aLate 0 (aVal (x2 subD (xVar 1) (xC (.int 2))) (mP [])))))) (sAsg (xTup (dCons (x2 addD (x1 negD (xC (.int 9999))) (callI 2 0 [0, 1, 2, 3, 4, 5, 6, 7, 8, 9, 10] F__law_take (aLate 0 (aVal (xC (.int 3)) (mP []))))) (dCons (x2 subD (xC (.int 9999)) (callI 2 0 [0, 1, 2, 3, 4, 5, 6, 7, 8, 9, 10] F__law_take (aLate 0 (aVal (xC (.int 3)) (mP []))))) (mP [])))) (gsSub 6 (xVar 10)))) (mP .nx)) (sRet (lend [] 6 noLst (xB tupB (dCons (xVar 6) (mP []))))))))))
def F__law_bounds : List Ent → R D := defF (some 0) false 11 B__law_bounds
/-- _law_run_in(well, bounds): slots well, bounds, parts, found, kind, low, high, at -/
def B__law_run_in : M Fl := (sSeq (sParN [2, 3, 4] (pVal (x2 ixD (xTup (dCons (xC (.int 1)) (dCons (xC (.int 2)) (dCons (xC (.int 3)) (dCons (xC (.int 7)) (mP [])))))) (callI 2 0 [0, 1, 2, 3, 4, 5, 6, 7] F__law_take (aLate 0 (aVal (xC (.int 4)) (mP []))))) (pNew (lLst (mP [])) (pVal (callI 2 0 [0, 1, 2, 3, 4, 5, 6, 7] F__law_take (aLate 0 (aVal (xC (.int 4)) (mP [])))) (mP []))))) (sSeq (sFor (iRow (xVar 1)) (gsTup 2 (gsCons (setv 5) (gsCons (setv 6) gsNil))) (sSeq (sSet 7 (xIf (mT (x2 ltD (xVar 4) (xC (.int 2)))) (callI 2 0 [0, 1, 2, 3, 4, 5, 6, 7] F__law_take (aLate 0 (aVal (x2 addD (xVar 2) (xC (.int 1))) (mP [])))) (x2 ixD (xTup (dCons (xC (.int 0)) (dCons (xVar 2) (mP [])))) (callI 2 0 [0, 1, 2, 3, 4, 5, 6, 7] F__law_take (aLate 0 (aVal (xC (.int 2)) (mP []))))))) (sApp 3 (callD 2 F__law_part (dCons (x2 addD (x2 mulD (xVar 5) (xVar 2)) (x2 mulD (x2 subD (xVar 6) (xVar 5)) (xVar 7))) (dCons (xVar 2) (mP []))))))) (sRet (lend [] 3 noLst (xB tupB (dCons (xVar 3) (mP [])))))))
def F__law_run_in : List Ent → R D := defF (some 0) false 8 B__law_run_in
/-- _law_any_run(well, many): slots well, many, k -/
def B__law_any_run : M Fl := (sRet (xB tupB (dCons (xFz (lComp [2] (iOf range1 (dCons (xVar 1) (mP []))) (setv 2) (mP true) (callD 2 F__law_part (dCons (x2 subD (callI 2 0 [0, 1, 2] F__law_take (aLate 0 (aVal (xC (.int 41)) (mP [])))) (xC (.int 20))) (dCons (x2 addD (xC (.int 1)) (callI 2 0 [0, 1, 2] F__law_take (aLate 0 (aVal (xC (.int 4)) (mP []))))) (mP [])))))) (mP []))))
def F__law_any_run : List Ent → R D := defF (some 0) false 3 B__law_any_run
/-- _law_outside(bounds, run): slots bounds, run, k -/
def B__law_outside : M Fl := (sSeq (sFor (iOf range1 (dCons (xB lenB (dCons (xVar 1) (mP []))) (mP []))) (setv 2) (sIf (tOrM (mTru (callD 2 F__law_less (dCons (x2 ixD (xVar 1) (xVar 2)) (dCons (xTup (dCons (x2 ixD (x2 ixD (xVar 0) (xVar 2)) (xC (.int 0))) (dCons (xC (.int 1)) (mP [])))) (mP []))))) (mTru (callD 2 F__law_less (dCons (xTup (dCons (x2 ixD (x2 ixD (xVar 0) (xVar 2)) (xC (.int 1))) (dCons (xC (.int 1)) (mP [])))) (dCons (x2 ixD (xVar 1) (xVar 2)) (mP [])))))) (sRet (xVar 2)) (mP .nx))) (sRet (xC .non)))
def F__law_outside : List Ent → R D := defF none false 3 B__law_outside
/-- _law_near(well, run): slots well, run, at, found, bad, n, m, each -/
def B__law_near : M Fl := (sSeq (sSet 2 (callI 2 0 [0, 1, 2, 3, 4, 5, 6, 7] F__law_take (aLate 0 (aVal (xB lenB (dCons (xVar 1) (mP []))) (mP []))))) (sSeq (sAsg (x2 ixD (xVar 1) (xVar 2)) (gsTup 2 (gsCons (setv 5) (gsCons (setv 6) gsNil)))) (sSeq (sSet 3 (xFz (lLst (dCons (xVar 1) (dCons (xFz (lB listB (dCons (xVar 1) (mP [])))) (dCons (x1 revD (xVar 1)) (dCons (xCut (xVar 1) (oInt (xC (.int 1))) (mP none)) (dCons (x2 addD (xVar 1) (xVar 1)) (dCons (x2 addD (xVar 1) (xCut (xVar 1) (mP none) (oInt (xC (.int 1))))) (dCons (xCut (xVar 1) (mP none) (oInt (xC (.int 1)))) (dCons (xTup (dCons (xVar 1) (mP []))) (dCons (x2 ixD (xVar 1) (xC (.int 0))) (dCons (xC .non) (dCons (xTup (mP [])) (dCons (xC (.int 0)) (dCons (xC (.str "run")) (dCons (xC (.dct [])) (dCons (xC (.bl true)) (dCons (x2 mulD (xTup (dCons (x2 ixD (xVar 1) (xC (.int 0))) (mP []))) (xC (.int 9))) (dCons (x2 mulD (xTup (dCons (x2 ixD (xVar 1) (xC (.int 0))) (mP []))) (xC (.int 10))) (mP []))))))))))))))))))))) (sSeq (sSet 4 (xFz (lLst (dCons (xTup (dCons (x2 mulD (xC (.int 2)) (xVar 5)) (dCons (x2 mulD (xC (.int 2)) (xVar 6)) (mP [])))) (dCons (xTup (dCons (xVar 5) (dCons (x1 negD (xVar 6)) (mP [])))) (dCons (xTup (dCons (x1 negD (xVar 5)) (dCons (xVar 6) (mP [])))) (dCons (xTup (dCons (x1 negD (xVar 5)) (dCons (x1 negD (xVar 6)) (mP [])))) (dCons (xTup (dCons (xC (.int 0)) (dCons (xVar 6) (mP [])))) (dCons (xTup (dCons (xC (.int 0)) (dCons (xC (.int 1)) (mP [])))) (dCons (xTup (dCons (xVar 5) (dCons (xC (.int 0)) (mP [])))) (dCons (xTup (dCons (xC (.bl true)) (dCons (xC (.int 1)) (mP [])))) (dCons (xTup (dCons (xVar 5) (dCons (xC (.bl true)) (mP [])))) (dCons (xTup (dCons (xVar 5) (dCons (xC .non) (mP [])))) (dCons (xTup (dCons (xB strB (dCons (xVar 5) (mP []))) (dCons (xVar 6) (mP [])))) (dCons (xFz (lLst (dCons (xVar 5) (dCons (xVar 6) (mP []))))) (dCons (xTup (dCons (xVar 5) (mP []))) (dCons (xTup (dCons (xVar 5) (dCons (xVar 6) (dCons (xC (.int 1)) (mP []))))) (dCons (xTup (mP [])) (dCons (xC .non) (dCons (xVar 5) (dCons (xTup (dCons (x2 addD (xVar 5) (xVar 6)) (dCons (xVar 6) (mP [])))) (mP [])))))))))))))))))))))) (sSeq (sSet 4 (x2 addD (xVar 4) (xFz (lLst (dCons (xTup (dCons (x2 powD (xC (.int 10)) (xC (.int 30))) (dCons (xC (.int 7)) (mP [])))) (dCons (xTup (dCons (xTup (dCons (xVar 5) (dCons (xVar 6) (mP [])))) (mP []))) (mP []))))))) (sRet (x2 addD (xVar 3) (xFz (lComp [7] (iRow (xVar 4)) (setv 7) (mP true) (x2 addD (x2 addD (xCut (xVar 1) (mP none) (oInt (xVar 2))) (xTup (dCons (xVar 7) (mP [])))) (xCut (xVar 1) (oInt (x2 addD (xVar 2) (xC (.int 1)))) (mP none))))))))))))
def F__law_near : List Ent → R D := defF (some 0) false 8 B__law_near
/-- _law_bounds_right(well, bounds): slots well, bounds, share, mixed, at, some, each, run, other, many, low, high, k, pair -/
def B__law_bounds_right : M Fl := (sSeq (sAsg (xTup (dCons (callI 2 0 [0, 1, 2, 3, 4, 5, 6, 7, 8, 9, 10, 11, 12, 13] F__law_run_in (aLate 0 (aVal (xVar 1) (mP [])))) (dCons (callI 2 0 [0, 1, 2, 3, 4, 5, 6, 7, 8, 9, 10, 11, 12, 13] F__law_run_in (aLate 0 (aVal (xVar 1) (mP [])))) (dCons (xB lenB (dCons (xVar 1) (mP []))) (mP []))))) (gsTup 3 (gsCons (setv 7) (gsCons (setv 8) (gsCons (setv 9) gsNil))))) (sSeq (sSet 2 (callD 2 F__law_part (dCons (callI 2 0 [0, 1, 2, 3, 4, 5, 6, 7, 8, 9, 10, 11, 12, 13] F__law_take (aLate 0 (aVal (xC (.int 8)) (mP [])))) (dCons (xC (.int 7)) (mP []))))) (sSeq (sSet 3 (xB tupB (dCons (xFz (lComp [12] (iOf range1 (dCons (xVar 9) (mP []))) (setv 12) (mP true) (callD 2 F__law_plus (dCons (x2 ixD (xVar 7) (xVar 12)) (dCons (callD 2 F__law_times (dCons (xVar 2) (dCons (callD 2 F__law_minus (dCons (x2 ixD (xVar 8) (xVar 12)) (dCons (x2 ixD (xVar 7) (xVar 12)) (mP [])))) (mP [])))) (mP [])))))) (mP [])))) (sSeq (sSet 4 (callI 2 0 [0, 1, 2, 3, 4, 5, 6, 7, 8, 9, 10, 11, 12, 13] F__law_take (aLate 0 (aVal (xVar 9) (mP []))))) (sSeq (sAsg (x2 ixD (xVar 1) (xVar 4)) (gsTup 2 (gsCons (setv 10) (gsCons (setv 11) gsNil)))) (sSeq (sSet 5 (xFz (lLst (dCons (xVar 7) (dCons (xVar 8) (dCons (xVar 3) (dCons (callI 2 0 [0, 1, 2, 3, 4, 5, 6, 7, 8, 9, 10, 11, 12, 13] F__law_any_run (aLate 0 (aVal (xVar 9) (mP [])))) (dCons (xB tupB (dCons (xFz (lComp [13] (iRow (xVar 1)) (setv 13) (mP true) (xTup (dCons (x2 ixD (xVar 13) (xC (.int 0))) (dCons (xC (.int 1)) (mP [])))))) (mP []))) (dCons (xB tupB (dCons (xFz (lComp [13] (iRow (xVar 1)) (setv 13) (mP true) (xTup (dCons (x2 ixD (xVar 13) (xC (.int 1))) (dCons (xC (.int 1)) (mP [])))))) (mP []))) (mP [])))))))))) (sSeq (sSet 5 (x2 addD (xVar 5) (xFz (lComp [6] (iRow (xTup (dCons (xTup (dCons (xVar 10) (dCons (xC (.int 1)) (mP [])))) (dCons (xTup (dCons (xVar 11) (dCons (xC (.int 1)) (mP [])))) (dCons (xTup (dCons (x2 subD (x2 mulD (xC (.int 7)) (xVar 10)) (xC (.int 1))) (dCons (xC (.int 7)) (mP [])))) (dCons (xTup (dCons (x2 addD (x2 mulD (xC (.int 7)) (xVar 11)) (xC (.int 1))) (dCons (xC (.int 7)) (mP [])))) (dCons (xTup (dCons (x2 subD (xVar 10) (xC (.int 1))) (dCons (xC (.int 1)) (mP [])))) (dCons (xTup (dCons (x2 addD (xVar 11) (xC (.int 1))) (dCons (xC (.int 1)) (mP [])))) (mP []))))))))) (setv 6) (mP true) (callD 3 F__law_put (dCons (xVar 7) (dCons (xVar 4) (dCons (xVar 6) (mP []))))))))) (sSeq (sFor (iRow (xVar 5)) (setv 6) (sIf (tNotM (mTru (callD 2 F__law_says (dCons (xIf (mT (x2 eqD (callI 2 0 [0, 1, 2, 3, 4, 5, 6, 7, 8, 9, 10, 11, 12, 13] F__law_take (aLate 0 (aVal (xC (.int 2)) (mP [])))) (xC (.int 1)))) (callKw 2 2 [1, 0] F_is_within (dCons (xVar 6) (dCons (xVar 1) (mP [])))) (callD 2 F_is_within (dCons (xVar 1) (dCons (xVar 6) (mP []))))) (dCons (x2 isNoneD (callD 2 F__law_outside (dCons (xVar 1) (dCons (xVar 6) (mP [])))) (xC .non)) (mP [])))))) (sRet (xC (.bl false))) (mP .nx))) (sRet (x2 isNoneD (callD 2 F__law_outside (dCons (xVar 1) (dCons (xVar 3) (mP [])))) (xC .non)))))))))))
def F__law_bounds_right : List Ent → R D := defF (some 0) false 14 B__law_bounds_right
/-- law(script): slots script, lap, well, many, tube, flat, bounds, run, value, due -/
def B_law : M Fl := (sSeq (sFor (iOf range1 (dCons (xB max2B (dCons (xC (.int 3)) (dCons (xB min2B (dCons (xB lenB (dCons (xVar 0) (mP []))) (dCons (xC (.int 6)) (mP [])))) (mP [])))) (mP []))) (setv 1) (sSeq (sSetL 2 (callL 2 F__law_well (dCons (xVar 0) (dCons (xVar 1) (mP []))))) (sFor (iRow (xTup (dCons (xC (.int 2)) (dCons (x2 addD (xC (.int 3)) (callI 2 0 [0, 1, 2, 3, 4, 5, 6, 7, 8, 9] F__law_take (aLate 2 (aVal (xC (.int 3)) (mP []))))) (dCons (x2 addD (xC (.int 6)) (callI 2 0 [0, 1, 2, 3, 4, 5, 6, 7, 8, 9] F__law_take (aLate 2 (aVal (xC (.int 4)) (mP []))))) (mP [])))))) (setv 3) (sSeq (sSet 6 (callI 2 0 [0, 1, 2, 3, 4, 5, 6, 7, 8, 9] F__law_bounds (aLate 2 (aVal (xVar 3) (mP []))))) (sSeq (sSet 7 (x2 ixD (xTup (dCons (callI 2 0 [0, 1, 2, 3, 4, 5, 6, 7, 8, 9] F__law_run_in (aLate 2 (aVal (xVar 6) (mP [])))) (dCons (callI 2 0 [0, 1, 2, 3, 4, 5, 6, 7, 8, 9] F__law_any_run (aLate 2 (aVal (xVar 3) (mP [])))) (mP [])))) (callI 2 0 [0, 1, 2, 3, 4, 5, 6, 7, 8, 9] F__law_take (aLate 2 (aVal (xC (.int 2)) (mP [])))))) (sSeq (sFor (iRow (callI 2 0 [0, 1, 2, 3, 4, 5, 6, 7, 8, 9] F__law_near (aLate 2 (aVal (xVar 7) (mP []))))) (setv 8) (sSeq (sSet 9 (xAnd (xB isB (dCons (xVar 8) (dCons (xC (.opq (.ty "tuple"))) (mP [])))) (xAnd (xChain leD leD (xC (.int 2)) (xB lenB (dCons (xVar 8) (mP []))) (xC (.int 9))) (callD 2 F__law_is_row (dCons (xVar 8) (dCons (xB lenB (dCons (xVar 8) (mP []))) (mP []))))))) (sIf (tNotM (mTru (callD 2 F__law_says (dCons (xIf (mT (x2 eqD (callI 2 0 [0, 1, 2, 3, 4, 5, 6, 7, 8, 9] F__law_take (aLate 2 (aVal (xC (.int 2)) (mP [])))) (xC (.int 1)))) (callKw 1 1 [0] F_is_run (dCons (xVar 8) (mP []))) (callD 1 F_is_run (dCons (xVar 8) (mP [])))) (dCons (xVar 9) (mP [])))))) (sRet (xC (.bl false))) (mP .nx)))) (sIf (tNotM (mTru (callI 2 0 [0, 1, 2, 3, 4, 5, 6, 7, 8, 9] F__law_bounds_right (aLate 2 (aVal (xVar 6) (mP [])))))) (sRet (xC (.bl false))) (mP .nx)))))))) (sSeq (sAsg (xTup (dCons (xTup (dCons (xTup (dCons (xC (.int 0)) (dCons (xC (.int 0)) (mP [])))) (dCons (xTup (dCons (xC (.int 0)) (dCons (xC (.int 2)) (mP [])))) (dCons (xTup (dCons (xC (.int 0)) (dCons (xC (.int 2)) (mP [])))) (dCons (xTup (dCons (xC (.int 3)) (dCons (xC (.int 3)) (mP [])))) (mP [])))))) (dCons (xTup (dCons (xTup (dCons (xC (.int 0)) (dCons (xC (.int 1)) (mP [])))) (dCons (xTup (dCons (xC (.int 1)) (dCons (xC (.int 1)) (mP [])))) (dCons (xTup (dCons (xC (.int 2)) (dCons (xC (.int 1)) (mP [])))) (dCons (xTup (dCons (xC (.int 3)) (dCons (xC (.int 1)) (mP [])))) (mP [])))))) (mP [])))) (gsTup 2 (gsCons (setv 4) (gsCons (setv 5) gsNil)))) (sRet (x2 eqD (xFz (lLst (dCons (callD 1 F_is_run (dCons (xTup (dCons (xTup (dCons (xC (.int 0)) (dCons (xC (.int 2)) (mP [])))) (mP []))) (mP []))) (dCons (callD 1 F_is_run (dCons (xVar 5) (mP []))) (dCons (callD 2 F_is_within (dCons (xVar 4) (dCons (xVar 5) (mP [])))) (dCons (callD 2 F_is_within (dCons (xVar 4) (dCons (xTup (dCons (xTup (dCons (xC (.int 0)) (dCons (xC (.int 1)) (mP [])))) (dCons (xTup (dCons (xC (.int 5)) (dCons (xC (.int 2)) (mP [])))) (dCons (xTup (dCons (xC (.int 2)) (dCons (xC (.int 1)) (mP [])))) (dCons (xTup (dCons (xC (.int 3)) (dCons (xC (.int 1)) (mP [])))) (mP [])))))) (mP [])))) (mP []))))))) (xFz (lLst (dCons (xC (.bl false)) (dCons (xC (.bl true)) (dCons (xC (.bl true)) (dCons (xC (.bl false)) (mP [])))))))))))
def F_law : List Ent → R D := defF none false 10 B_law
end FL
namespace FL
open PySem PySem.Spec L2
local macro_rules | `(tactic| walk_at "go") => `(tactic| with_reducible first
  | refine wp_seq ?_ | refine wp_sIf ?_ | refine wp_ret ?_ | refine wp_set ?_ | refine wp_asg ?_ | refine wp_setL ?_ | refine wp_retL ?_ | refine wp_expr ?_
  | refine wp_2 ?_ | refine wp_1 ?_ | refine wp_C ?_ | refine wp_xB ?_ | refine wp_cons ?_ | refine wp_P ?_ | refine wp_xT ?_ | refine wp_tru ?_ | refine wp_tup ?_ | refine wp_lst ?_ | refine wp_fz ?_ | refine wp_oInt ?_ | refine wp_cut ?_
  | refine wp_and ?_ | refine wp_or ?_ | refine wp_not ?_ | refine wp_tAnd ?_ | refine wp_tOr ?_ | refine wp_tNot ?_ | refine wp_xIf ?_ | refine wp_chain ?_ | refine wp_par2 ?_ | refine wp_par3 ?_ | refine wp_parN ?_ | refine wp_pVal ?_ | refine wp_pNew ?_
  | refine wp_lB ?_ | refine wp_iOf ?_ | refine wp_iRow ?_ | refine wp_for ?_ | refine wp_forc ?_ | refine wp_forn ?_ | refine wp_gsCons ?_ | refine wp_gsNil ?_ | refine wp_its0 ?_ | refine wp_aVal ?_
  | refine fl_nx ?_ | refine fl_rt ?_ | refine fl_rtL ?_ | refine fl_co ?_ | refine fl_br ?_ | refine br_t ?_ | refine br_f ?_ | refine br_t' ?_ | refine br_f' ?_ | refine br_n ?_ | refine br_n' ?_ | refine en_rt ?_ | refine en_rtL ?_ | refine in_nx ?_ | refine in_co ?_ | refine it_nx ?_ | refine it_co ?_ | refine it_rt ?_ | refine it_br ?_ | refine ex_bl ?_ | refine ex_int ?_)
local macro_rules | `(tactic| walk_at "sd") => `(tactic| first
  | ((with_reducible refine' wp_var ?e ?_); case e => rfl)
  | ((with_reducible refine' wp_gsTup ?e ?_); case e => rfl)
  | ((with_reducible refine' wp_setv ?e ?_); (case e => exact Nat.le_of_ble_eq_true rfl); try dsimp only [List.set])
  | ((with_reducible refine' wp_itsV ?e ?_); (case e => exact Nat.le_of_ble_eq_true rfl); try dsimp only [List.set])
  | ((with_reducible refine' wp_itsN ?e ?_); (case e => exact Nat.le_of_ble_eq_true rfl); try dsimp only [List.set])
  | ((with_reducible refine' wp_lend' ?e ?_); case e => rfl)
  | ((with_reducible refine' wp_gsSub ?h ?c); case c => exact ⟨_, _, rfl⟩)
  | ((with_reducible refine' wp_late ?e ?_); case e => exact ⟨_, _, rfl⟩))
local macro_rules | `(tactic| walk_at "ex") => `(tactic| first
  | ((with_reducible refine' ex_sub ?e ?f ?_); (case e => rfl); (case f => rfl); try dsimp only [List.set])
  | ((with_reducible refine' ex_sb ?e ?_); case e => rfl)
  | ((with_reducible refine' ex_so ?e ?_); case e => rfl)
  | ((with_reducible refine' ex_p2 ?e ?f ?_); (case e => exact Nat.le_of_ble_eq_true rfl); (case f => exact Nat.le_of_ble_eq_true rfl); try dsimp only [List.set])
  | ((with_reducible refine' ex_p3 ?e ?f ?g ?_); (case e => exact Nat.le_of_ble_eq_true rfl); (case f => exact Nat.le_of_ble_eq_true rfl); (case g => exact Nat.le_of_ble_eq_true rfl); try dsimp only [List.set])
  | ((with_reducible refine' And.intro ?e ?_); (case e => rfl))
  | ((with_reducible refine' And.intro ?e ?_); (case e => exact Nat.le_of_ble_eq_true rfl); try dsimp only [List.set]))
local macro_rules | `(tactic| walk_at "op") => `(tactic| first
  | (with_reducible refine' wp_O (eq_int _ _) ?_)
  | (with_reducible refine' wp_O (ne_int _ _) ?_)
  | (with_reducible refine' wp_O (eq_bl _ _) ?_)
  | ((with_reducible refine' wp_O (mul_ok (small _ ?e) (small _ ?f)) ?_); (case e => omega); (case f => omega))
  | ((with_reducible refine' wp_O (mod_ok ?e) ?_); case e => omega)
  | ((with_reducible refine' wp_O (div_ok ?e (small _ ?f)) ?_); (case e => omega); case f => omega)
  | ((with_reducible refine' wp_O (dm_ok ?e ?f) ?_); (case e => omega); case f => omega)
  | ((with_reducible refine' wp_O ?e ?_); case e => rfl))
local macro_rules | `(tactic| walk_at "to") => `(tactic| repeat (first | walk_at "go" | walk_at "sd" | walk_at "ex"))
local macro_rules | `(tactic| walk_at "do") => `(tactic| repeat (first | walk_at "go" | walk_at "sd" | walk_at "op" | walk_at "ex"))
/-! ### the looks at a value -/
theorem f_whole {d : D} (h : hasTy d = true) {Q : D → List Ent → Prop} (q : Q (.bl (isIntD d)) []) : WpF F_is_whole (valsOf [d]) Q := by
  refine wp_def ?_
  unfold B_is_whole
  show Wp _ [.val d] _
  walk_at "do"
  refine wp_O (isB_int h) ?_
  walk_at "do"
  refine ⟨fun e => ?_, fun e => ?_⟩
  · walk_at "do"
    refine wp_O (isB_bool h) ?_
    walk_at "do"
    have : isIntD d = !isBlD d := by cases d <;> first | rfl | (cases e; done)
    rw [← this]
    exact q
  · walk_at "do"
    rw [e]
    have : isIntD d = false := by cases d <;> first | rfl | (cases e; done)
    rw [← this]
    exact q
theorem f_lwhole {d : D} (h : hasTy d = true) {Q : D → List Ent → Prop} (q : Q (.bl (isIntD d)) []) : WpF F__law_whole (valsOf [d]) Q := by
  refine wp_def ?_
  unfold B__law_whole
  show Wp _ [.val d] _
  walk_at "do"
  refine wp_O (isB_int h) ?_
  walk_at "do"
  refine ⟨fun e => ?_, fun e => ?_⟩
  · walk_at "do"
    refine wp_O (isB_bool h) ?_
    walk_at "do"
    have : isIntD d = !isBlD d := by cases d <;> first | rfl | (cases e; done)
    rw [← this]
    exact q
  · walk_at "do"
    rw [e]
    have : isIntD d = false := by cases d <;> first | rfl | (cases e; done)
    rw [← this]
    exact q
def betw (a b : Int) : D → Bool
  | .int i => decide (a ≤ i) && decide (i ≤ b)
  | _ => false
theorem f_betw {d : D} {a b : Int} (h : hasTy d = true) {Q : D → List Ent → Prop} (q : Q (.bl (betw a b d)) []) : WpF F_is_between (valsOf [d, .int a, .int b]) Q := by
  refine wp_def ?_
  unfold B_is_between
  show Wp _ [.val d, .val (.int a), .val (.int b)] _
  walk_at "do"
  refine wp_callD ?_
  walk_at "do"
  refine f_whole h ?_
  walk_at "do"
  refine ⟨fun e => ?_, fun e => ?_⟩
  · cases d <;> try (cases e; done)
    rename_i i
    walk_at "do"
    refine br_d (fun h1 => ?_) (fun h1 => ?_)
    · walk_at "do"
      have : betw a b (.int i) = decide (i ≤ b) := by show (decide (a ≤ i) && _) = _; rw [decide_eq_true h1, Bool.true_and]
      rw [← this]
      exact q
    · walk_at "do"
      have : betw a b (.int i) = false := by show (decide (a ≤ i) && _) = _; rw [decide_eq_false h1, Bool.false_and]
      rw [← this]
      exact q
  · walk_at "do"
    have : betw a b d = isIntD d := by cases d <;> first | rfl | (cases e; done)
    rw [← this]
    exact q
def isLen (n : Int) : D → Bool
  | .tup ds => decide ((ds.length : Int) = n)
  | _ => false
theorem f_tof {d : D} {n : Int} (h : hasTy d = true) {Q : D → List Ent → Prop} (q : Q (.bl (isLen n d)) []) : WpF F_is_tuple_of (valsOf [d, .int n]) Q := by
  refine wp_def ?_
  unfold B_is_tuple_of
  show Wp _ [.val d, .val (.int n)] _
  walk_at "do"
  refine wp_O (isB_tup h) ?_
  walk_at "do"
  refine ⟨fun e => ?_, fun e => ?_⟩
  · cases d <;> try (cases e; done)
    walk_at "do"
    exact q
  · walk_at "do"
    have : isLen n d = isTupD d := by cases d <;> first | rfl | (cases e; done)
    rw [← this]
    exact q
def pairB : D → Bool
  | .tup [.int a, .int b] => decide (-9999 ≤ a) && decide (a ≤ 9999) && decide (a ≤ b) && decide (b ≤ 9999)
  | _ => false
def ty2 (d : D) : Prop := hasTy d = true ∧ ∀ ds, d = .tup ds → ∀ e ∈ ds, hasTy e = true
def ty3 (d : D) : Prop := hasTy d = true ∧ ∀ ds, d = .tup ds → ∀ e ∈ ds, ty2 e
theorem isLen2 {d : D} (h : isLen 2 d = true) : ∃ x y, d = .tup [x, y] := by
  cases d <;> try (cases h; done)
  rename_i ds
  have h1 : (ds.length : Int) = 2 := of_decide_eq_true h
  match ds, h1 with
  | [x, y], _ => exact ⟨x, y, rfl⟩
  | [], h => simp at h
  | [x], h => simp at h
  | x :: y :: z :: r, h => simp at h; omega
theorem f_pair {d : D} (h : ty2 d) {Q : D → List Ent → Prop} (q : Q (.bl (pairB d)) []) : WpF F_is_pair_by (valsOf [d]) Q := by
  refine wp_def ?_
  unfold B_is_pair_by
  show Wp _ [.val d] _
  walk_at "do"
  refine wp_callD ?_
  walk_at "do"
  refine f_tof h.1 ?_
  walk_at "do"
  refine ⟨fun e => ?_, fun e => ?_⟩
  · obtain ⟨x, y, rfl⟩ := isLen2 e
    have hx := h.2 _ rfl x (List.mem_cons_self ..)
    have hy := h.2 _ rfl y (List.mem_cons_of_mem _ (List.mem_cons_self ..))
    walk_at "do"
    refine wp_callD ?_
    walk_at "do"
    refine f_betw hx ?_
    walk_at "do"
    refine ⟨fun e2 => ?_, fun e2 => ?_⟩
    · walk_at "do"
      have : pairB (.tup [x, y]) = false := by
        cases x <;> try rfl
        rename_i a
        cases y <;> try rfl
        rename_i b
        show (decide (-9999 ≤ a) && decide (a ≤ 9999) && decide (a ≤ b) && decide (b ≤ 9999)) = _
        have : (decide (-9999 ≤ a) && decide (a ≤ 9999)) = false := e2
        rw [this]
        rfl
      rw [← this]
      exact q
    · cases x <;> try (cases e2; done)
      rename_i a
      walk_at "do"
      refine wp_callD ?_
      walk_at "do"
      refine f_betw hy ?_
      walk_at "do"
      have : pairB (.tup [.int a, y]) = betw a 9999 y := by
        cases y <;> first | rfl | skip
        rename_i b
        show (decide (-9999 ≤ a) && decide (a ≤ 9999) && decide (a ≤ b) && decide (b ≤ 9999)) = _
        have : (decide (-9999 ≤ a) && decide (a ≤ 9999)) = true := e2
        rw [this, Bool.true_and]
        rfl
      rw [← this]
      exact q
  · walk_at "do"
    have : pairB d = false := by
      unfold pairB
      split
      · cases e
      · rfl
    rw [← this]
    exact q
end FL
namespace FL
open PySem PySem.Spec L2
local macro_rules | `(tactic| walk_at "go") => `(tactic| with_reducible first
  | refine wp_seq ?_ | refine wp_sIf ?_ | refine wp_ret ?_ | refine wp_set ?_ | refine wp_asg ?_ | refine wp_setL ?_ | refine wp_retL ?_ | refine wp_expr ?_
  | refine wp_2 ?_ | refine wp_1 ?_ | refine wp_C ?_ | refine wp_xB ?_ | refine wp_cons ?_ | refine wp_P ?_ | refine wp_xT ?_ | refine wp_tru ?_ | refine wp_tup ?_ | refine wp_lst ?_ | refine wp_fz ?_ | refine wp_oInt ?_ | refine wp_cut ?_
  | refine wp_and ?_ | refine wp_or ?_ | refine wp_not ?_ | refine wp_tAnd ?_ | refine wp_tOr ?_ | refine wp_tNot ?_ | refine wp_xIf ?_ | refine wp_chain ?_ | refine wp_par2 ?_ | refine wp_par3 ?_ | refine wp_parN ?_ | refine wp_pVal ?_ | refine wp_pNew ?_
  | refine wp_lB ?_ | refine wp_iOf ?_ | refine wp_iRow ?_ | refine wp_for ?_ | refine wp_forc ?_ | refine wp_forn ?_ | refine wp_gsCons ?_ | refine wp_gsNil ?_ | refine wp_its0 ?_ | refine wp_aVal ?_
  | refine fl_nx ?_ | refine fl_rt ?_ | refine fl_rtL ?_ | refine fl_co ?_ | refine fl_br ?_ | refine br_t ?_ | refine br_f ?_ | refine br_t' ?_ | refine br_f' ?_ | refine br_n ?_ | refine br_n' ?_ | refine en_rt ?_ | refine en_rtL ?_ | refine in_nx ?_ | refine in_co ?_ | refine it_nx ?_ | refine it_co ?_ | refine it_rt ?_ | refine it_br ?_ | refine ex_bl ?_ | refine ex_int ?_)
local macro_rules | `(tactic| walk_at "sd") => `(tactic| first
  | ((with_reducible refine' wp_var ?e ?_); case e => rfl)
  | ((with_reducible refine' wp_gsTup ?e ?_); case e => rfl)
  | ((with_reducible refine' wp_setv ?e ?_); (case e => exact Nat.le_of_ble_eq_true rfl); try dsimp only [List.set])
  | ((with_reducible refine' wp_itsV ?e ?_); (case e => exact Nat.le_of_ble_eq_true rfl); try dsimp only [List.set])
  | ((with_reducible refine' wp_itsN ?e ?_); (case e => exact Nat.le_of_ble_eq_true rfl); try dsimp only [List.set])
  | ((with_reducible refine' wp_lend' ?e ?_); case e => rfl)
  | ((with_reducible refine' wp_gsSub ?h ?c); case c => exact ⟨_, _, rfl⟩)
  | ((with_reducible refine' wp_late ?e ?_); case e => exact ⟨_, _, rfl⟩))
local macro_rules | `(tactic| walk_at "ex") => `(tactic| first
  | ((with_reducible refine' ex_sub ?e ?f ?_); (case e => rfl); (case f => rfl); try dsimp only [List.set])
  | ((with_reducible refine' ex_sb ?e ?_); case e => rfl)
  | ((with_reducible refine' ex_so ?e ?_); case e => rfl)
  | ((with_reducible refine' ex_p2 ?e ?f ?_); (case e => exact Nat.le_of_ble_eq_true rfl); (case f => exact Nat.le_of_ble_eq_true rfl); try dsimp only [List.set])
  | ((with_reducible refine' ex_p3 ?e ?f ?g ?_); (case e => exact Nat.le_of_ble_eq_true rfl); (case f => exact Nat.le_of_ble_eq_true rfl); (case g => exact Nat.le_of_ble_eq_true rfl); try dsimp only [List.set])
  | ((with_reducible refine' And.intro ?e ?_); (case e => rfl))
  | ((with_reducible refine' And.intro ?e ?_); (case e => exact Nat.le_of_ble_eq_true rfl); try dsimp only [List.set]))
local macro_rules | `(tactic| walk_at "op") => `(tactic| first
  | (with_reducible refine' wp_O (eq_int _ _) ?_)
  | (with_reducible refine' wp_O (ne_int _ _) ?_)
  | (with_reducible refine' wp_O (eq_bl _ _) ?_)
  | ((with_reducible refine' wp_O (mul_ok (small _ ?e) (small _ ?f)) ?_); (case e => omega); (case f => omega))
  | ((with_reducible refine' wp_O (mod_ok ?e) ?_); case e => omega)
  | ((with_reducible refine' wp_O (div_ok ?e (small _ ?f)) ?_); (case e => omega); case f => omega)
  | ((with_reducible refine' wp_O (dm_ok ?e ?f) ?_); (case e => omega); case f => omega)
  | ((with_reducible refine' wp_O ?e ?_); case e => rfl))
local macro_rules | `(tactic| walk_at "to") => `(tactic| repeat (first | walk_at "go" | walk_at "sd" | walk_at "ex"))
local macro_rules | `(tactic| walk_at "do") => `(tactic| repeat (first | walk_at "go" | walk_at "sd" | walk_at "op" | walk_at "ex"))
theorem ix_last {ds : List D} (h : ds ≠ []) : ixD (.tup ds) (.int (-1)) = some (ds.getLast h) := by
  show L2.atI ds (-1) = _
  have := atI_last ds.dropLast (ds.getLast h)
  rw [List.dropLast_concat_getLast] at this
  exact this
theorem ix_hd {x : D} {l : List D} : ixD (.tup (x :: l)) (.int 0) = some x := ix_nat (by decide) rfl
def eqP : D → Bool
  | .tup [.int a, .int b] => decide (a = b)
  | _ => false
def rightB : D → Bool
  | .tup ds => decide (2 ≤ ds.length) && decide (ds.length ≤ 9) && ds.all pairB
  | _ => false
def boundsB (d : D) : Bool := rightB d && (match d with
  | .tup ds => eqP (ds.headD .non) && eqP (ds.getLastD .non)
  | _ => false)
theorem pairB_of {d : D} (h : pairB d = true) : ∃ a b, d = .tup [.int a, .int b] ∧ -9999 ≤ a ∧ a ≤ b ∧ b ≤ 9999 := by
  unfold pairB at h
  split at h
  · rename_i a b
    simp only [Bool.and_eq_true, decide_eq_true_eq] at h
    exact ⟨a, b, rfl, h.1.1.1, h.1.2, h.2⟩
  · cases h
theorem f_says {a b : Bool} {Q : D → List Ent → Prop} (q : Q (.bl (a == b)) []) : WpF F__law_says (valsOf [.bl a, .bl b]) Q := by
  refine wp_def ?_
  unfold B__law_says
  show Wp _ [.val (.bl a), .val (.bl b)] _
  walk_at "do"
  exact q
/-- the end of both: the first and the last place of one height -/
theorem f_ends {ds : List D} {r : List Ent} (h : rightB (.tup ds) = true) (hr : r[0]? = some (.val (.tup ds))) {Q : D → List Ent → Prop} (q : Q (.bl (boundsB (.tup ds))) r) :
    Wp (xAnd (x2 eqD (x2 ixD (x2 ixD (xVar 0) (xC (.int 0))) (xC (.int 0))) (x2 ixD (x2 ixD (xVar 0) (xC (.int 0))) (xC (.int 1)))) (x2 eqD (x2 ixD (x2 ixD (xVar 0) (x1 negD (xC (.int 1)))) (xC (.int 0))) (x2 ixD (x2 ixD (xVar 0) (x1 negD (xC (.int 1)))) (xC (.int 1))))) r Q := by
  have h' := h
  simp only [rightB, Bool.and_eq_true, decide_eq_true_eq] at h'
  match ds, h'.1.1 with
  | x :: rest, hl =>
    have hx : pairB x = true := List.all_eq_true.mp h'.2 x (List.mem_cons_self ..)
    have hne : x :: rest ≠ [] := fun z => nomatch z
    have hz : pairB ((x :: rest).getLast hne) = true := List.all_eq_true.mp h'.2 _ (List.getLast_mem hne)
    obtain ⟨a, b, e1, _⟩ := pairB_of hx
    obtain ⟨c, d, e2, _⟩ := pairB_of hz
    have hl : (x :: rest).getLastD .non = (x :: rest).getLast hne := by rw [List.getLastD_eq_getLast?, List.getLast?_eq_some_getLast hne]; rfl
    have qq : boundsB (.tup (x :: rest)) = (decide (a = b) && decide (c = d)) := by
      unfold boundsB
      rw [h, Bool.true_and]
      show (eqP x && eqP ((x :: rest).getLastD .non)) = _
      rw [hl, e2, e1]
      rfl
    rw [qq] at q
    have e3 : ixD (.tup (x :: rest)) (.int (-1)) = some (.tup [.int c, .int d]) := by rw [ix_last hne, e2]
    subst e1
    walk_at "go"
    walk_at "go"
    walk_at "go"
    walk_at "go"
    refine wp_var hr ?_
    walk_at "do"
    refine wp_O ix_hd ?_
    walk_at "do"
    refine wp_var hr ?_
    walk_at "do"
    refine wp_O ix_hd ?_
    walk_at "do"
    refine br_d (fun h1 => ?_) (fun h1 => ?_)
    · rw [decide_eq_true h1, Bool.true_and] at q
      walk_at "go"
      walk_at "go"
      walk_at "go"
      refine wp_var hr ?_
      walk_at "go"
      walk_at "go"
      refine wp_O rfl ?_
      refine wp_O e3 ?_
      walk_at "do"
      refine wp_var hr ?_
      walk_at "go"
      walk_at "go"
      refine wp_O rfl ?_
      refine wp_O e3 ?_
      walk_at "do"
      exact q
    · rw [decide_eq_false h1, Bool.false_and] at q
      rw [decide_eq_false h1]
      exact q
end FL
namespace FL
open PySem PySem.Spec L2
local macro_rules | `(tactic| walk_at "go") => `(tactic| with_reducible first
  | refine wp_seq ?_ | refine wp_sIf ?_ | refine wp_ret ?_ | refine wp_set ?_ | refine wp_asg ?_ | refine wp_setL ?_ | refine wp_retL ?_ | refine wp_expr ?_
  | refine wp_2 ?_ | refine wp_1 ?_ | refine wp_C ?_ | refine wp_xB ?_ | refine wp_cons ?_ | refine wp_P ?_ | refine wp_xT ?_ | refine wp_tru ?_ | refine wp_tup ?_ | refine wp_lst ?_ | refine wp_fz ?_ | refine wp_oInt ?_ | refine wp_cut ?_
  | refine wp_and ?_ | refine wp_or ?_ | refine wp_not ?_ | refine wp_tAnd ?_ | refine wp_tOr ?_ | refine wp_tNot ?_ | refine wp_xIf ?_ | refine wp_chain ?_ | refine wp_par2 ?_ | refine wp_par3 ?_ | refine wp_parN ?_ | refine wp_pVal ?_ | refine wp_pNew ?_
  | refine wp_lB ?_ | refine wp_iOf ?_ | refine wp_iRow ?_ | refine wp_for ?_ | refine wp_forc ?_ | refine wp_forn ?_ | refine wp_gsCons ?_ | refine wp_gsNil ?_ | refine wp_its0 ?_ | refine wp_aVal ?_
  | refine fl_nx ?_ | refine fl_rt ?_ | refine fl_rtL ?_ | refine fl_co ?_ | refine fl_br ?_ | refine br_t ?_ | refine br_f ?_ | refine br_t' ?_ | refine br_f' ?_ | refine br_n ?_ | refine br_n' ?_ | refine en_rt ?_ | refine en_rtL ?_ | refine in_nx ?_ | refine in_co ?_ | refine it_nx ?_ | refine it_co ?_ | refine it_rt ?_ | refine it_br ?_ | refine ex_bl ?_ | refine ex_int ?_)
local macro_rules | `(tactic| walk_at "sd") => `(tactic| first
  | ((with_reducible refine' wp_var ?e ?_); case e => rfl)
  | ((with_reducible refine' wp_gsTup ?e ?_); case e => rfl)
  | ((with_reducible refine' wp_setv ?e ?_); (case e => exact Nat.le_of_ble_eq_true rfl); try dsimp only [List.set])
  | ((with_reducible refine' wp_itsV ?e ?_); (case e => exact Nat.le_of_ble_eq_true rfl); try dsimp only [List.set])
  | ((with_reducible refine' wp_itsN ?e ?_); (case e => exact Nat.le_of_ble_eq_true rfl); try dsimp only [List.set])
  | ((with_reducible refine' wp_lend' ?e ?_); case e => rfl)
  | ((with_reducible refine' wp_gsSub ?h ?c); case c => exact ⟨_, _, rfl⟩)
  | ((with_reducible refine' wp_late ?e ?_); case e => exact ⟨_, _, rfl⟩))
local macro_rules | `(tactic| walk_at "ex") => `(tactic| first
  | ((with_reducible refine' ex_sub ?e ?f ?_); (case e => rfl); (case f => rfl); try dsimp only [List.set])
  | ((with_reducible refine' ex_sb ?e ?_); case e => rfl)
  | ((with_reducible refine' ex_so ?e ?_); case e => rfl)
  | ((with_reducible refine' ex_p2 ?e ?f ?_); (case e => exact Nat.le_of_ble_eq_true rfl); (case f => exact Nat.le_of_ble_eq_true rfl); try dsimp only [List.set])
  | ((with_reducible refine' ex_p3 ?e ?f ?g ?_); (case e => exact Nat.le_of_ble_eq_true rfl); (case f => exact Nat.le_of_ble_eq_true rfl); (case g => exact Nat.le_of_ble_eq_true rfl); try dsimp only [List.set])
  | ((with_reducible refine' And.intro ?e ?_); (case e => rfl))
  | ((with_reducible refine' And.intro ?e ?_); (case e => exact Nat.le_of_ble_eq_true rfl); try dsimp only [List.set]))
local macro_rules | `(tactic| walk_at "op") => `(tactic| first
  | (with_reducible refine' wp_O (eq_int _ _) ?_)
  | (with_reducible refine' wp_O (ne_int _ _) ?_)
  | (with_reducible refine' wp_O (eq_bl _ _) ?_)
  | ((with_reducible refine' wp_O (mul_ok (small _ ?e) (small _ ?f)) ?_); (case e => omega); (case f => omega))
  | ((with_reducible refine' wp_O (mod_ok ?e) ?_); case e => omega)
  | ((with_reducible refine' wp_O (div_ok ?e (small _ ?f)) ?_); (case e => omega); case f => omega)
  | ((with_reducible refine' wp_O (dm_ok ?e ?f) ?_); (case e => omega); case f => omega)
  | ((with_reducible refine' wp_O ?e ?_); case e => rfl))
local macro_rules | `(tactic| walk_at "to") => `(tactic| repeat (first | walk_at "go" | walk_at "sd" | walk_at "ex"))
local macro_rules | `(tactic| walk_at "do") => `(tactic| repeat (first | walk_at "go" | walk_at "sd" | walk_at "op" | walk_at "ex"))
theorem cut1 {x : D} {l : List D} : cutDs (x :: l) none (some 1) = [x] := by
  have h : HT.sIx (x :: l).length (x :: l).length (some 1) = 1 := by
    show (if (1 : Int) < 0 then ((1 : Int) + ((x :: l).length : Int)).toNat else min (1 : Int).toNat (l.length + 1)) = 1
    rw [if_neg (by decide)]
    show min 1 (l.length + 1) = 1
    omega
  unfold cutDs
  rw [h]
  rfl
theorem getD_at {l : List D} {i : Nat} (h : i < l.length) : l.getD i .non = l[i] := by simp [List.getD, List.getElem?_eq_getElem h]
theorem cut0 {o : Option Int} {lo : Option Int} : cutDs [] lo o = [] := by
  unfold cutDs
  simp
def fwP : D → Bool
  | .tup [_, e] => !pairB e
  | _ => false
def fwF : D → D
  | .tup [i, _] => i
  | _ => .non
theorem fw_row (ds : List D) : (ds.all pairB = true → ((enumD ds).filter fwP).map fwF = []) ∧ (ds.all pairB = false → ∃ i l, ((enumD ds).filter fwP).map fwF = .int i :: l) := by
  have hm : ∀ e ∈ enumD ds, ∃ (i : Nat) (x : D), x ∈ ds ∧ e = .tup [.int i, x] := fun e he => by
    obtain ⟨i, hi, rfl⟩ := List.mem_map.mp he
    have hi := List.mem_range.mp hi
    exact ⟨i, ds.getD i .non, by rw [getD_at hi]; exact List.getElem_mem hi, rfl⟩
  constructor
  · intro h
    rw [List.filter_eq_nil_iff.mpr (fun e he => ?_)]
    · rfl
    · obtain ⟨i, x, hx, rfl⟩ := hm e he
      show ¬ (!pairB x) = true
      rw [List.all_eq_true.mp h x hx]
      decide
  · intro h
    obtain ⟨x, hx, hp⟩ : ∃ x ∈ ds, pairB x = false := by
      by_cases c : ∃ x ∈ ds, pairB x = false
      · exact c
      · exfalso
        have : ds.all pairB = true := List.all_eq_true.mpr fun x hx => by
          cases q : pairB x with
          | true => rfl
          | false => exact (c ⟨x, hx, q⟩).elim
        rw [this] at h
        cases h
    obtain ⟨i, hi, e⟩ := List.mem_iff_getElem.mp hx
    have hin : (D.tup [.int (i : Nat), x]) ∈ (enumD ds).filter fwP := by
      refine List.mem_filter.mpr ⟨List.mem_map.mpr ⟨i, List.mem_range.mpr hi, ?_⟩, ?_⟩
      · rw [getD_at hi, e]
      · show (!pairB x) = true
        rw [hp]; rfl
    match q : (enumD ds).filter fwP with
    | [] => rw [q] at hin; cases hin
    | y :: l =>
      have hy : y ∈ enumD ds := (List.mem_filter.mp (by rw [q]; exact List.mem_cons_self ..)).1
      obtain ⟨j, z, _, rfl⟩ := hm y hy
      exact ⟨j, l.map fwF, rfl⟩
theorem f_fw {d : D} (h : ty3 d) {Q : D → List Ent → Prop} (q1 : rightB d = true → Q (.lst []) []) (q2 : rightB d = false → ∀ z, (z = .non ∨ ∃ i, z = .int i) → Q (.lst [z]) []) :
    WpF F_first_wrong__is_pair_by (valsOf [d, .int 2, .int 9, .dfn "is_pair_by"]) Q := by
  refine wp_def ?_
  unfold B_first_wrong__is_pair_by
  show Wp _ [.val d, .val (.int 2), .val (.int 9), .val (.dfn "is_pair_by"), .no, .no] _
  walk_at "do"
  refine wp_O (isB_tup h.1) ?_
  walk_at "do"
  refine ⟨fun e => ?_, fun e => ?_⟩
  · cases d <;> try (cases e; done)
    rename_i ds
    walk_at "do"
    refine br_d (fun h1 => ?_) (fun h1 => ?_)
    · walk_at "do"
      refine ⟨fun e => ?_, fun e => ?_⟩
      · have h2 := of_decide_eq_false e
        walk_at "do"
        have : rightB (.tup ds) = false := by unfold rightB; simp only; rw [decide_eq_false (show ¬ ds.length ≤ 9 by omega), Bool.and_false, Bool.false_and]
        exact q2 this _ (.inl rfl)
      · have h2 := of_decide_eq_true e
        have h1' : 2 ≤ ds.length := by omega
        have h2' : ds.length ≤ 9 := by omega
        walk_at "do"
        refine wp_comp fwP fwF ?_
        walk_at "do"
        have hl : (enumD ds).length ≤ most := by unfold enumD; rw [List.length_map, List.length_range]; show ds.length ≤ 100000; omega
        refine ⟨hl, fun e he => ?_, ?_⟩
        · obtain ⟨i, hi, rfl⟩ := List.mem_map.mp he
          have hi := List.mem_range.mp hi
          have hx : ty2 (ds.getD i .non) := h.2 _ rfl _ (by rw [getD_at hi]; exact List.getElem_mem hi)
          walk_at "do"
          refine wp_callP rfl ?_
          walk_at "do"
          refine f_pair hx ?_
          walk_at "do"
          refine ⟨fun e => ?_, fun e => rfl⟩
          walk_at "do"
          rfl
        · walk_at "do"
          have hh := fw_row ds
          have hr : rightB (.tup ds) = ds.all pairB := by unfold rightB; simp only; rw [decide_eq_true h1', decide_eq_true h2']; rfl
          cases c : ds.all pairB with
          | true =>
            rw [hh.1 c, cut0]
            exact q1 (hr.trans c)
          | false =>
            obtain ⟨i, l, e⟩ := hh.2 c
            rw [e, cut1]
            exact q2 (hr.trans c) _ (.inr ⟨i, rfl⟩)
    · walk_at "do"
      have : rightB (.tup ds) = false := by unfold rightB; simp only; rw [decide_eq_false (show ¬ 2 ≤ ds.length by omega), Bool.false_and, Bool.false_and]
      exact q2 this _ (.inl rfl)
  · walk_at "do"
    have : rightB d = false := by cases d <;> first | rfl | (cases e; done)
    exact q2 this _ (.inl rfl)
theorem f_endsR {ds : List D} {r : List Ent} {Q : Fl → List Ent → Prop} (h : rightB (.tup ds) = true) (hr : r[0]? = some (.val (.tup ds))) (q : Q (.rt (.bl (boundsB (.tup ds)))) r) :
    Wp (sRet (xAnd (x2 eqD (x2 ixD (x2 ixD (xVar 0) (xC (.int 0))) (xC (.int 0))) (x2 ixD (x2 ixD (xVar 0) (xC (.int 0))) (xC (.int 1)))) (x2 eqD (x2 ixD (x2 ixD (xVar 0) (x1 negD (xC (.int 1)))) (xC (.int 0))) (x2 ixD (x2 ixD (xVar 0) (x1 negD (xC (.int 1)))) (xC (.int 1)))))) r Q :=
  wp_ret (f_ends h hr q)
theorem f_are {d : D} (h : ty3 d) {Q : D → List Ent → Prop} (q : Q (.bl (boundsB d)) []) : WpF F_are_bounds_by (valsOf [d]) Q := by
  refine wp_def ?_
  unfold B_are_bounds_by
  show Wp _ [.val d] _
  walk_at "do"
  refine wp_callD ?_
  walk_at "do"
  refine f_fw h (fun e => ?_) fun e z hz => ?_
  · obtain ⟨ds, rfl⟩ : ∃ ds, d = .tup ds := by cases d <;> first | exact ⟨_, rfl⟩ | (cases e; done)
    walk_at "to"
    refine wp_O (a := D.bl false) rfl ?_
    repeat (first | ((with_reducible refine' f_endsR ?a ?b ?_); (case a => exact e); (case b => rfl)) | walk_at "go")
    walk_at "do"
    exact q
  · walk_at "to"
    have : neD (.lst [z]) (.lst []) = some (.bl true) := by
      rcases hz with rfl | ⟨i, rfl⟩ <;> rfl
    refine wp_O this ?_
    walk_at "do"
    have : boundsB d = false := by unfold boundsB; rw [e]; rfl
    rw [← this]
    exact q
end FL
namespace FL
open PySem PySem.Spec L2
local macro_rules | `(tactic| walk_at "go") => `(tactic| with_reducible first
  | refine wp_seq ?_ | refine wp_sIf ?_ | refine wp_ret ?_ | refine wp_set ?_ | refine wp_asg ?_ | refine wp_setL ?_ | refine wp_retL ?_ | refine wp_expr ?_
  | refine wp_2 ?_ | refine wp_1 ?_ | refine wp_C ?_ | refine wp_xB ?_ | refine wp_cons ?_ | refine wp_P ?_ | refine wp_xT ?_ | refine wp_tru ?_ | refine wp_tup ?_ | refine wp_lst ?_ | refine wp_fz ?_ | refine wp_oInt ?_ | refine wp_cut ?_
  | refine wp_and ?_ | refine wp_or ?_ | refine wp_not ?_ | refine wp_tAnd ?_ | refine wp_tOr ?_ | refine wp_tNot ?_ | refine wp_xIf ?_ | refine wp_chain ?_ | refine wp_par2 ?_ | refine wp_par3 ?_ | refine wp_parN ?_ | refine wp_pVal ?_ | refine wp_pNew ?_
  | refine wp_lB ?_ | refine wp_iOf ?_ | refine wp_iRow ?_ | refine wp_for ?_ | refine wp_forc ?_ | refine wp_forn ?_ | refine wp_gsCons ?_ | refine wp_gsNil ?_ | refine wp_its0 ?_ | refine wp_aVal ?_
  | refine fl_nx ?_ | refine fl_rt ?_ | refine fl_rtL ?_ | refine fl_co ?_ | refine fl_br ?_ | refine br_t ?_ | refine br_f ?_ | refine br_t' ?_ | refine br_f' ?_ | refine br_n ?_ | refine br_n' ?_ | refine en_rt ?_ | refine en_rtL ?_ | refine in_nx ?_ | refine in_co ?_ | refine it_nx ?_ | refine it_co ?_ | refine it_rt ?_ | refine it_br ?_ | refine ex_bl ?_ | refine ex_int ?_)
local macro_rules | `(tactic| walk_at "sd") => `(tactic| first
  | ((with_reducible refine' wp_var ?e ?_); case e => rfl)
  | ((with_reducible refine' wp_gsTup ?e ?_); case e => rfl)
  | ((with_reducible refine' wp_setv ?e ?_); (case e => exact Nat.le_of_ble_eq_true rfl); try dsimp only [List.set])
  | ((with_reducible refine' wp_itsV ?e ?_); (case e => exact Nat.le_of_ble_eq_true rfl); try dsimp only [List.set])
  | ((with_reducible refine' wp_itsN ?e ?_); (case e => exact Nat.le_of_ble_eq_true rfl); try dsimp only [List.set])
  | ((with_reducible refine' wp_lend' ?e ?_); case e => rfl)
  | ((with_reducible refine' wp_gsSub ?h ?c); case c => exact ⟨_, _, rfl⟩)
  | ((with_reducible refine' wp_late ?e ?_); case e => exact ⟨_, _, rfl⟩))
local macro_rules | `(tactic| walk_at "ex") => `(tactic| first
  | ((with_reducible refine' ex_sub ?e ?f ?_); (case e => rfl); (case f => rfl); try dsimp only [List.set])
  | ((with_reducible refine' ex_sb ?e ?_); case e => rfl)
  | ((with_reducible refine' ex_so ?e ?_); case e => rfl)
  | ((with_reducible refine' ex_p2 ?e ?f ?_); (case e => exact Nat.le_of_ble_eq_true rfl); (case f => exact Nat.le_of_ble_eq_true rfl); try dsimp only [List.set])
  | ((with_reducible refine' ex_p3 ?e ?f ?g ?_); (case e => exact Nat.le_of_ble_eq_true rfl); (case f => exact Nat.le_of_ble_eq_true rfl); (case g => exact Nat.le_of_ble_eq_true rfl); try dsimp only [List.set])
  | ((with_reducible refine' And.intro ?e ?_); (case e => rfl))
  | ((with_reducible refine' And.intro ?e ?_); (case e => exact Nat.le_of_ble_eq_true rfl); try dsimp only [List.set]))
local macro_rules | `(tactic| walk_at "op") => `(tactic| first
  | (with_reducible refine' wp_O (eq_int _ _) ?_)
  | (with_reducible refine' wp_O (ne_int _ _) ?_)
  | (with_reducible refine' wp_O (eq_bl _ _) ?_)
  | ((with_reducible refine' wp_O (mul_ok (small _ ?e) (small _ ?f)) ?_); (case e => omega); (case f => omega))
  | ((with_reducible refine' wp_O (mod_ok ?e) ?_); case e => omega)
  | ((with_reducible refine' wp_O (div_ok ?e (small _ ?f)) ?_); (case e => omega); case f => omega)
  | ((with_reducible refine' wp_O (dm_ok ?e ?f) ?_); (case e => omega); case f => omega)
  | ((with_reducible refine' wp_O ?e ?_); case e => rfl))
local macro_rules | `(tactic| walk_at "to") => `(tactic| repeat (first | walk_at "go" | walk_at "sd" | walk_at "ex"))
local macro_rules | `(tactic| walk_at "do") => `(tactic| repeat (first | walk_at "go" | walk_at "sd" | walk_at "op" | walk_at "ex"))
def Well (k : Int) (ds : List D) : Prop := ∃ a s c : Int, ds = [.int a, .int s, .int c] ∧ 0 ≤ a ∧ 0 ≤ s ∧ s < 2147483648 ∧ 0 ≤ c ∧ c ≤ k
theorem f_take {k m : Int} {ds : List D} (h : Well k ds) (hk : k ≤ 1000000000) (m1 : 1 ≤ m) (m2 : m ≤ 65536) {Q : D → List Ent → Prop} (q : ∀ t es, 0 ≤ t → t < m → Well (k + 2) es → Q (.int t) [.cel .io es]) : WpF F__law_take (ioArgs [] ds [.int m]) Q := by
  obtain ⟨a, s, c, rfl, h1, h2, h3, h4, h5⟩ := h
  refine wp_defI ?_
  unfold B__law_take
  show Wp _ [.cel .io [.int a, .int s, .int c], .val (.int m), .no, .no] _
  walk_at "do"
  refine br_d (fun g => ?_) (fun g => ?_)
  · walk_at "do"
    refine en_rtI rfl ?_
    exact q _ _ (Int.emod_nonneg _ (by omega)) (Int.emod_lt_of_pos _ (by omega)) ⟨_, _, _, rfl, Int.ediv_nonneg h1 (by omega), h2, h3, h4, by omega⟩
  · walk_at "do"
    refine wp_while1 ?_
    walk_at "do"
    refine br_d (fun g1 => ?_) (fun g1 => (g1 (by omega)).elim)
    walk_at "do"
    show Wp _ [.cel .io [.int a, .int ((s * 69621 + (c + 1) * 40692 + 5) % 2147483629), .int (c + 1)], .val (.int m), .val (.int (0 * 65536 + (s * 69621 + (c + 1) * 40692 + 5) % 2147483629 / 64 % 65536)), .val (.int (1 * 65536))] _
    generalize hs' : (s * 69621 + (c + 1) * 40692 + 5) % 2147483629 = s'
    have b1 : 0 ≤ s' ∧ s' < 2147483629 := by omega
    generalize ht' : 0 * 65536 + s' / 64 % 65536 = t'
    have b2 : 0 ≤ t' ∧ t' < 65536 := by omega
    refine wp_while1 ?_
    walk_at "do"
    refine br_d (fun g2 => ?_) (fun g2 => ?_)
    · walk_at "do"
      show Wp _ [.cel .io [.int a, .int ((s' * 69621 + (c + 1 + 1) * 40692 + 5) % 2147483629), .int (c + 1 + 1)], .val (.int m), .val (.int (t' * 65536 + (s' * 69621 + (c + 1 + 1) * 40692 + 5) % 2147483629 / 64 % 65536)), .val (.int (1 * 65536 * 65536))] _
      generalize hs2 : (s' * 69621 + (c + 1 + 1) * 40692 + 5) % 2147483629 = s2
      have b3 : 0 ≤ s2 ∧ s2 < 2147483629 := by omega
      refine wp_while1 ?_
      walk_at "do"
      refine br_d (fun g3 => (by omega)) (fun g3 => ?_)
      walk_at "do"
      refine en_rtI rfl ?_
      exact q _ _ (Int.emod_nonneg _ (by omega)) (Int.emod_lt_of_pos _ (by omega)) ⟨_, _, _, rfl, h1, b3.1, by omega, by omega, by omega⟩
    · walk_at "do"
      refine en_rtI rfl ?_
      exact q _ _ (Int.emod_nonneg _ (by omega)) (Int.emod_lt_of_pos _ (by omega)) ⟨_, _, _, rfl, h1, b1.1, by omega, by omega, by omega⟩
end FL
namespace FL
open PySem PySem.Spec L2
local macro_rules | `(tactic| walk_at "go") => `(tactic| with_reducible first
  | refine wp_seq ?_ | refine wp_sIf ?_ | refine wp_ret ?_ | refine wp_set ?_ | refine wp_asg ?_ | refine wp_setL ?_ | refine wp_retL ?_ | refine wp_expr ?_
  | refine wp_2 ?_ | refine wp_1 ?_ | refine wp_C ?_ | refine wp_xB ?_ | refine wp_cons ?_ | refine wp_P ?_ | refine wp_xT ?_ | refine wp_tru ?_ | refine wp_tup ?_ | refine wp_lst ?_ | refine wp_fz ?_ | refine wp_oInt ?_ | refine wp_cut ?_
  | refine wp_and ?_ | refine wp_or ?_ | refine wp_not ?_ | refine wp_tAnd ?_ | refine wp_tOr ?_ | refine wp_tNot ?_ | refine wp_xIf ?_ | refine wp_chain ?_ | refine wp_par2 ?_ | refine wp_par3 ?_ | refine wp_parN ?_ | refine wp_pVal ?_ | refine wp_pNew ?_
  | refine wp_lB ?_ | refine wp_iOf ?_ | refine wp_iRow ?_ | refine wp_for ?_ | refine wp_forc ?_ | refine wp_forn ?_ | refine wp_gsCons ?_ | refine wp_gsNil ?_ | refine wp_its0 ?_ | refine wp_aVal ?_
  | refine fl_nx ?_ | refine fl_rt ?_ | refine fl_rtL ?_ | refine fl_co ?_ | refine fl_br ?_ | refine br_t ?_ | refine br_f ?_ | refine br_t' ?_ | refine br_f' ?_ | refine br_n ?_ | refine br_n' ?_ | refine en_rt ?_ | refine en_rtL ?_ | refine in_nx ?_ | refine in_co ?_ | refine it_nx ?_ | refine it_co ?_ | refine it_rt ?_ | refine it_br ?_ | refine ex_bl ?_ | refine ex_int ?_)
local macro_rules | `(tactic| walk_at "sd") => `(tactic| first
  | ((with_reducible refine' wp_var ?e ?_); case e => rfl)
  | ((with_reducible refine' wp_gsTup ?e ?_); case e => rfl)
  | ((with_reducible refine' wp_setv ?e ?_); (case e => exact Nat.le_of_ble_eq_true rfl); try dsimp only [List.set])
  | ((with_reducible refine' wp_itsV ?e ?_); (case e => exact Nat.le_of_ble_eq_true rfl); try dsimp only [List.set])
  | ((with_reducible refine' wp_itsN ?e ?_); (case e => exact Nat.le_of_ble_eq_true rfl); try dsimp only [List.set])
  | ((with_reducible refine' wp_lend' ?e ?_); case e => rfl)
  | ((with_reducible refine' wp_gsSub ?h ?c); case c => exact ⟨_, _, rfl⟩)
  | ((with_reducible refine' wp_late ?e ?_); case e => exact ⟨_, _, rfl⟩))
local macro_rules | `(tactic| walk_at "ex") => `(tactic| first
  | ((with_reducible refine' ex_sub ?e ?f ?_); (case e => rfl); (case f => rfl); try dsimp only [List.set])
  | ((with_reducible refine' ex_sb ?e ?_); case e => rfl)
  | ((with_reducible refine' ex_so ?e ?_); case e => rfl)
  | ((with_reducible refine' ex_p2 ?e ?f ?_); (case e => exact Nat.le_of_ble_eq_true rfl); (case f => exact Nat.le_of_ble_eq_true rfl); try dsimp only [List.set])
  | ((with_reducible refine' ex_p3 ?e ?f ?g ?_); (case e => exact Nat.le_of_ble_eq_true rfl); (case f => exact Nat.le_of_ble_eq_true rfl); (case g => exact Nat.le_of_ble_eq_true rfl); try dsimp only [List.set])
  | ((with_reducible refine' And.intro ?e ?_); (case e => rfl))
  | ((with_reducible refine' And.intro ?e ?_); (case e => exact Nat.le_of_ble_eq_true rfl); try dsimp only [List.set]))
local macro_rules | `(tactic| walk_at "op") => `(tactic| first
  | (with_reducible refine' wp_O (eq_int _ _) ?_)
  | (with_reducible refine' wp_O (ne_int _ _) ?_)
  | (with_reducible refine' wp_O (eq_bl _ _) ?_)
  | ((with_reducible refine' wp_O (mul_ok (small _ ?e) (small _ ?f)) ?_); (case e => omega); (case f => omega))
  | ((with_reducible refine' wp_O (mod_ok ?e) ?_); case e => omega)
  | ((with_reducible refine' wp_O (div_ok ?e (small _ ?f)) ?_); (case e => omega); case f => omega)
  | ((with_reducible refine' wp_O (dm_ok ?e ?f) ?_); (case e => omega); case f => omega)
  | ((with_reducible refine' wp_O ?e ?_); case e => rfl))
local macro_rules | `(tactic| walk_at "to") => `(tactic| repeat (first | walk_at "go" | walk_at "sd" | walk_at "ex"))
local macro_rules | `(tactic| walk_at "do") => `(tactic| repeat (first | walk_at "go" | walk_at "sd" | walk_at "op" | walk_at "ex"))
theorem cut_mem {l : List D} {lo hi : Option Int} {x : D} (h : x ∈ cutDs l lo hi) : x ∈ l := List.mem_of_mem_drop (List.mem_of_mem_take h)
theorem cut_len {l : List D} {lo hi : Option Int} : (cutDs l lo hi).length ≤ l.length := by
  unfold cutDs
  rw [List.length_take, List.length_drop]
  omega
theorem add_lst {a b : List D} (h : a.length + b.length ≤ 100000) : addD (.lst a) (.lst b) = some (.lst (a ++ b)) := by
  show (if decide (a.length + b.length ≤ most) then _ else _) = _
  rw [if_pos (decide_eq_true (show a.length + b.length ≤ most from h))]
theorem add_tup {a b : List D} (h : a.length + b.length ≤ 100000) : addD (.tup a) (.tup b) = some (.tup (a ++ b)) := by
  show (if decide (a.length + b.length ≤ most) then _ else _) = _
  rw [if_pos (decide_eq_true (show a.length + b.length ≤ most from h))]
theorem f_well {ns : List Int} (hl : ns.length ≤ 63) {lap : Int} (l0 : 0 ≤ lap) (l1 : lap ≤ 100) {Q : D → List Ent → Prop} (q : ∀ es, Well 0 es → Q (.lst es) []) : WpF F__law_well (valsOf [.scr (ns.map .int), .int lap]) Q := by
  refine wp_defL ?_
  unfold B__law_well
  show Wp _ [.val (.scr (ns.map .int)), .val (.int lap), .no, .no, .no] _
  have main : ∀ own : Int, Wp (sSeq (sSet 3 (x2 addD (xC (.int 7919)) (x2 mulD (xC (.int 104729)) (xVar 1)))) (sSeq (sFor (iRow (x2 addD (xCut (xVar 0) (mP none) (oInt (xC (.int 6)))) (xFz (lLst (dCons (xVar 2) (mP [])))))) (setv 4) (sSet 3 (x2 modD (xB intB (dCons (x2 addD (x2 addD (x2 mulD (xVar 3) (xC (.int 48271))) (x2 modD (xB intB (dCons (xVar 4) (mP []))) (xC (.int 2147483629)))) (xC (.int 17))) (mP []))) (xC (.int 2147483647))))) (sRetL (lLst (dCons (xIf (tOrM (mT (x2 ltD (xVar 2) (xC (.int 0)))) (mT (x2 geD (xVar 2) (x2 powD (xC (.int 10)) (xC (.int 18)))))) (xB absB (dCons (xVar 2) (mP []))) (xC (.int 0))) (dCons (xVar 3) (dCons (xC (.int 0)) (mP []))))))))
      [.val (.scr (ns.map .int)), .val (.int lap), .val (.int own), .no, .no] fun fl _ => ∃ ds, fl = .rtL ds ∧ Q (.lst ds) [] := by
    intro own
    walk_at "do"
    refine wp_O (add_lst ?_) ?_
    · have := cut_len (l := ns.map D.int) (lo := none) (hi := some 6)
      rw [List.length_map] at this
      show _ + 1 ≤ _
      omega
    walk_at "do"
    refine wp_forD (fun rest r => (∀ x ∈ rest, ∃ z, x = D.int z) ∧ ∃ s e, r = [.val (.scr (ns.map .int)), .val (.int lap), .val (.int own), .val (.int s), e] ∧ 0 ≤ s ∧ s < 2147483648) ?_ ?_ _ _ ⟨?_, _, _, rfl, by omega, by omega⟩
    · rintro d ds r ⟨hd, s, e, rfl, b1, b2⟩
      obtain ⟨z, rfl⟩ := hd d (List.mem_cons_self ..)
      walk_at "do"
      exact ⟨fun x hx => hd x (List.mem_cons_of_mem _ hx), _, _, rfl, by omega, by omega⟩
    · rintro r ⟨_, s, e, rfl, b1, b2⟩
      walk_at "do"
      refine br_d' (fun g1 => ?_) (fun g1 => ?_)
      · walk_at "do"
        refine br_d (fun g2 => ?_) (fun g2 => ?_)
        · walk_at "do"
          exact q _ ⟨_, _, _, rfl, by split <;> omega, b1, b2, by omega, by omega⟩
        · walk_at "do"
          exact q _ ⟨_, _, _, rfl, by omega, b1, b2, by omega, by omega⟩
      · walk_at "do"
        exact q _ ⟨_, _, _, rfl, by split <;> omega, b1, b2, by omega, by omega⟩
    · intro x hx
      rcases List.mem_append.mp hx with h | h
      · obtain ⟨z, _, rfl⟩ := List.mem_map.mp (cut_mem h)
        exact ⟨z, rfl⟩
      · exact ⟨own, List.mem_singleton.mp h⟩
  walk_at "go"
  walk_at "go"
  walk_at "go"
  walk_at "do"
  refine br_d (fun g => ?_) (fun g => ?_)
  · have g' : lap.toNat < ns.length := by rw [List.length_map] at g; omega
    have : ixD (.scr (ns.map .int)) (.int lap) = some (.int ns[lap.toNat]) := by
      have h := atI_nat (xs := ns.map D.int) (j := lap.toNat) (v := .int ns[lap.toNat]) (by rw [List.getElem?_map, List.getElem?_eq_getElem g']; rfl)
      rw [Int.toNat_of_nonneg l0] at h
      exact h
    walk_at "to"
    refine wp_O this ?_
    walk_at "to"
    refine wp_O rfl ?_
    refine ⟨by exact Nat.le_of_ble_eq_true rfl, ?_⟩
    dsimp only [List.set]
    exact fl_nx (main _)
  · walk_at "go"
    refine ⟨by exact Nat.le_of_ble_eq_true rfl, ?_⟩
    dsimp only [List.set]
    exact fl_nx (main _)
end FL
namespace FL
open PySem PySem.Spec L2
local macro_rules | `(tactic| walk_at "go") => `(tactic| with_reducible first
  | refine wp_seq ?_ | refine wp_sIf ?_ | refine wp_ret ?_ | refine wp_set ?_ | refine wp_asg ?_ | refine wp_setL ?_ | refine wp_retL ?_ | refine wp_expr ?_
  | refine wp_2 ?_ | refine wp_1 ?_ | refine wp_C ?_ | refine wp_xB ?_ | refine wp_cons ?_ | refine wp_P ?_ | refine wp_xT ?_ | refine wp_tru ?_ | refine wp_tup ?_ | refine wp_lst ?_ | refine wp_fz ?_ | refine wp_oInt ?_ | refine wp_cut ?_
  | refine wp_and ?_ | refine wp_or ?_ | refine wp_not ?_ | refine wp_tAnd ?_ | refine wp_tOr ?_ | refine wp_tNot ?_ | refine wp_xIf ?_ | refine wp_chain ?_ | refine wp_par2 ?_ | refine wp_par3 ?_ | refine wp_parN ?_ | refine wp_pVal ?_ | refine wp_pNew ?_
  | refine wp_lB ?_ | refine wp_iOf ?_ | refine wp_iRow ?_ | refine wp_for ?_ | refine wp_forc ?_ | refine wp_forn ?_ | refine wp_gsCons ?_ | refine wp_gsNil ?_ | refine wp_its0 ?_ | refine wp_aVal ?_
  | refine fl_nx ?_ | refine fl_rt ?_ | refine fl_rtL ?_ | refine fl_co ?_ | refine fl_br ?_ | refine br_t ?_ | refine br_f ?_ | refine br_t' ?_ | refine br_f' ?_ | refine br_n ?_ | refine br_n' ?_ | refine en_rt ?_ | refine en_rtL ?_ | refine in_nx ?_ | refine in_co ?_ | refine it_nx ?_ | refine it_co ?_ | refine it_rt ?_ | refine it_br ?_ | refine ex_bl ?_ | refine ex_int ?_)
local macro_rules | `(tactic| walk_at "sd") => `(tactic| first
  | ((with_reducible refine' wp_var ?e ?_); case e => rfl)
  | ((with_reducible refine' wp_gsTup ?e ?_); case e => rfl)
  | ((with_reducible refine' wp_setv ?e ?_); (case e => exact Nat.le_of_ble_eq_true rfl); try dsimp only [List.set])
  | ((with_reducible refine' wp_itsV ?e ?_); (case e => exact Nat.le_of_ble_eq_true rfl); try dsimp only [List.set])
  | ((with_reducible refine' wp_itsN ?e ?_); (case e => exact Nat.le_of_ble_eq_true rfl); try dsimp only [List.set])
  | ((with_reducible refine' wp_lend' ?e ?_); case e => rfl)
  | ((with_reducible refine' wp_gsSub ?h ?c); case c => exact ⟨_, _, rfl⟩)
  | ((with_reducible refine' wp_late ?e ?_); case e => exact ⟨_, _, rfl⟩))
local macro_rules | `(tactic| walk_at "ex") => `(tactic| first
  | ((with_reducible refine' ex_sub ?e ?f ?_); (case e => rfl); (case f => rfl); try dsimp only [List.set])
  | ((with_reducible refine' ex_sb ?e ?_); case e => rfl)
  | ((with_reducible refine' ex_so ?e ?_); case e => rfl)
  | ((with_reducible refine' ex_p2 ?e ?f ?_); (case e => exact Nat.le_of_ble_eq_true rfl); (case f => exact Nat.le_of_ble_eq_true rfl); try dsimp only [List.set])
  | ((with_reducible refine' ex_p3 ?e ?f ?g ?_); (case e => exact Nat.le_of_ble_eq_true rfl); (case f => exact Nat.le_of_ble_eq_true rfl); (case g => exact Nat.le_of_ble_eq_true rfl); try dsimp only [List.set])
  | ((with_reducible refine' And.intro ?e ?_); (case e => rfl))
  | ((with_reducible refine' And.intro ?e ?_); (case e => exact Nat.le_of_ble_eq_true rfl); try dsimp only [List.set]))
local macro_rules | `(tactic| walk_at "op") => `(tactic| first
  | (with_reducible refine' wp_O (eq_int _ _) ?_)
  | (with_reducible refine' wp_O (ne_int _ _) ?_)
  | (with_reducible refine' wp_O (eq_bl _ _) ?_)
  | ((with_reducible refine' wp_O (mul_ok (small _ ?e) (small _ ?f)) ?_); (case e => omega); (case f => omega))
  | ((with_reducible refine' wp_O (mod_ok ?e) ?_); case e => omega)
  | ((with_reducible refine' wp_O (div_ok ?e (small _ ?f)) ?_); (case e => omega); case f => omega)
  | ((with_reducible refine' wp_O (dm_ok ?e ?f) ?_); (case e => omega); case f => omega)
  | ((with_reducible refine' wp_O ?e ?_); case e => rfl))
local macro_rules | `(tactic| walk_at "to") => `(tactic| repeat (first | walk_at "go" | walk_at "sd" | walk_at "ex"))
local macro_rules | `(tactic| walk_at "do") => `(tactic| repeat (first | walk_at "go" | walk_at "sd" | walk_at "op" | walk_at "ex"))
theorem wp_tk {j : Nat} {T : List Nat} {r : List Ent} {e : M D} {k : CK} {K : Int} {ds : List D} {Q : D → List Ent → Prop} (hr : r[j]? = some (.cel k ds)) (hj : j ∈ T) (hw : Well K ds) (hK : K ≤ 1000000000)
    (he : Wp e r fun d r1 => r1 = r ∧ ∃ m, d = .int m ∧ 1 ≤ m ∧ m ≤ 65536 ∧ ∀ t es, 0 ≤ t → t < m → Well (K + 2) es → Q (.int t) (r.set j (.cel k es))) : Wp (callI 2 0 T F__law_take (aLate j (aVal e (mP [])))) r Q := by
  refine wp_callI (wp_late ⟨_, _, hr⟩ (wp_aVal (he.imp fun d r1 ⟨e1, m, e2, h1, h2, h3⟩ => ?_)))
  subst e1 e2
  refine wp_P ⟨[], j, [.int m], k, ds, rfl, ⟨rfl, rfl, hj⟩, hr, ?_⟩
  exact f_take hw hK h1 h2 fun t es t0 t1 w => ⟨es, rfl, h3 t es t0 t1 w⟩
theorem noLst_pair {d : D} (h : pairB d = true) : noLst d = true := by
  obtain ⟨a, b, rfl, _⟩ := pairB_of h
  rfl
theorem noLsts_pairs : ∀ {ds : List D}, (∀ p ∈ ds, pairB p = true) → noLsts ds = true
  | [], _ => rfl
  | d :: ds, h => by
    show (noLst d && noLsts ds) = true
    rw [noLst_pair (h d (List.mem_cons_self ..)), noLsts_pairs fun p hp => h p (List.mem_cons_of_mem _ hp)]
    rfl
theorem pair_ok {a b : Int} (h1 : -9999 ≤ a) (h2 : a ≤ b) (h3 : b ≤ 9999) : pairB (.tup [.int a, .int b]) = true := by
  show (decide (-9999 ≤ a) && decide (a ≤ 9999) && decide (a ≤ b) && decide (b ≤ 9999)) = true
  simp only [Bool.and_eq_true, decide_eq_true_eq]
  omega
theorem set_all {ds : List D} {i : Nat} {d : D} (h : ∀ p ∈ ds, pairB p = true) (hd : pairB d = true) : ∀ p ∈ ds.set i d, pairB p = true := fun p hp => by
  rcases List.mem_or_eq_of_mem_set hp with h1 | h1
  · exact h p h1
  · rw [h1]; exact hd
theorem bounds_ok {ds : List D} {n : Nat} (hn : ds.length = n) (h2 : 2 ≤ n) (h9 : n ≤ 9) (hp : ∀ p ∈ ds, pairB p = true) (e0 : ∃ p, ds[0]? = some p ∧ eqP p = true) (e1 : ∃ p, ds[n - 1]? = some p ∧ eqP p = true) : boundsB (.tup ds) = true := by
  have hr : rightB (.tup ds) = true := by
    unfold rightB
    simp only [Bool.and_eq_true, decide_eq_true_eq]
    exact ⟨⟨by omega, by omega⟩, List.all_eq_true.mpr hp⟩
  unfold boundsB
  rw [hr, Bool.true_and]
  obtain ⟨p, h0, q0⟩ := e0
  obtain ⟨p', h1, q1⟩ := e1
  show (eqP (ds.headD .non) && eqP (ds.getLastD .non)) = true
  have a : ds.headD .non = p := by
    cases ds with
    | nil => cases h0
    | cons x l => exact Option.some.inj h0
  have b : ds.getLastD .non = p' := by
    rw [List.getLastD_eq_getLast?, List.getLast?_eq_getElem?, hn, h1]
    rfl
  rw [a, b, q0, q1]
  rfl
theorem f_lb {K : Int} {n : Nat} {ds : List D} (hw : Well K ds) (hK : K ≤ 999999000) (n2 : 2 ≤ n) (n9 : n ≤ 9) {Q : D → List Ent → Prop} (q : ∀ es bs, bs.length = n → boundsB (.tup bs) = true → Well (K + 100) es → Q (.tup bs) [.cel .io es]) : WpF F__law_bounds (ioArgs [] ds [.int n]) Q := by
  refine wp_defI ?_
  unfold B__law_bounds
  show Wp _ [.cel .io ds, .val (.int n), .no, .no, .no, .no, .no, .no, .no, .no, .no] _
  walk_at "do"
  refine wp_tk rfl (by decide) hw (by omega) ?_
  walk_at "do"
  refine ⟨by omega, by omega, fun t es t0 t1 hw => ?_⟩
  dsimp only [List.set]
  obtain ⟨high, e1, h0, h1⟩ : ∃ h, ixD (.tup [.int 3, .int 20, .int 900]) (.int t) = some (.int h) ∧ 3 ≤ h ∧ h ≤ 900 := by
    rcases (by omega : t = 0 ∨ t = 1 ∨ t = 2) with rfl | rfl | rfl
    · exact ⟨_, rfl, by decide, by decide⟩
    · exact ⟨_, rfl, by decide, by decide⟩
    · exact ⟨_, rfl, by decide, by decide⟩
  refine wp_O e1 ?_
  walk_at "do"
  refine wp_tk rfl (by decide) hw (by omega) ?_
  walk_at "do"
  refine ⟨by omega, by omega, fun t es t0 t1 hw => ?_⟩
  dsimp only [List.set]
  obtain ⟨wide, e2, w0, w1⟩ : ∃ h, ixD (.tup [.int 1, .int 4, .int 30]) (.int t) = some (.int h) ∧ 1 ≤ h ∧ h ≤ 30 := by
    rcases (by omega : t = 0 ∨ t = 1 ∨ t = 2) with rfl | rfl | rfl
    · exact ⟨_, rfl, by decide, by decide⟩
    · exact ⟨_, rfl, by decide, by decide⟩
    · exact ⟨_, rfl, by decide, by decide⟩
  refine wp_O e2 ?_
  walk_at "do"
  refine wp_tk rfl (by decide) hw (by omega) ?_
  walk_at "do"
  refine ⟨by omega, by omega, fun kind es k0 k1 hw => ?_⟩
  dsimp only [List.set]
  walk_at "do"
  refine wp_tk rfl (by decide) hw (by omega) ?_
  walk_at "do"
  refine ⟨by omega, by omega, fun t es t0 t1 hw => ?_⟩
  dsimp only [List.set]
  walk_at "do"
  have hrg : range1 [.int n] = some (rgD 0 n) := by
    unfold range1
    simp only
    rw [if_pos (show rgOk (n : Int) = true from decide_eq_true ⟨by omega, by omega⟩), Int.toNat_natCast]
  refine wp_O hrg ?_
  refine wp_forN (fun rest r => ∃ (es rows : List D) (kE lowE : Ent) (here : Int), r = [.cel .io es, .val (.int n), kE, .val (.int high), .val (.int wide), .val (.int kind), .cel .own rows, .val (.int here), lowE, .no, .no] ∧ rest.length ≤ n ∧ Well (K + 8 + 4 * (n - rest.length : Nat)) es ∧ rows.length = n - rest.length ∧ (∀ p ∈ rows, pairB p = true) ∧ here ≤ 900 + (n - rest.length : Nat) ∧ -here ≤ 900 + (n - rest.length : Nat)) ?_ _ _ ?_ ?_
  · rintro d rest r ⟨es, rows, kE, lowE, here, rfl, hl, hw, hlen, hp, b1, b2⟩
    rw [List.length_cons] at hl hw hlen b1 b2
    have hn1 : n - rest.length = n - (rest.length + 1) + 1 := by omega
    -- the low end
    have low : ∀ (Q : D → List Ent → Prop) , (∀ (es : List D) (lo : Int), Well (K + 8 + 4 * (n - (rest.length + 1) : Nat) + 2) es → lo ≤ 900 + (n - rest.length : Nat) → -lo ≤ 900 + (n - rest.length : Nat) → Q (.int lo) [.cel .io es, .val (.int n), .val d, .val (.int high), .val (.int wide), .val (.int kind), .cel .own rows, .val (.int here), lowE, .no, .no]) →
        Wp (xIf (mT (x2 eqD (xVar 5) (xC (.int 0)))) (xVar 7) (xIf (mT (x2 ltD (xVar 5) (xC (.int 3)))) (x2 subD (callI 2 0 [0, 1, 2, 3, 4, 5, 6, 7, 8, 9, 10] F__law_take (aLate 0 (aVal (x2 addD (x2 mulD (xC (.int 2)) (xVar 3)) (xC (.int 1))) (mP [])))) (xVar 3)) (x2 subD (x2 addD (xVar 7) (callI 2 0 [0, 1, 2, 3, 4, 5, 6, 7, 8, 9, 10] F__law_take (aLate 0 (aVal (xC (.int 3)) (mP []))))) (xC (.int 1)))))
          [.cel .io es, .val (.int n), .val d, .val (.int high), .val (.int wide), .val (.int kind), .cel .own rows, .val (.int here), lowE, .no, .no] Q := by
      intro Q q
      walk_at "do"
      refine br_d (fun g => ?_) (fun g => ?_)
      · walk_at "do"
        obtain ⟨a, s, c, h1, h2⟩ := hw
        exact q _ _ ⟨a, s, c, h1, by omega⟩ (by omega) (by omega)
      · walk_at "do"
        refine br_d (fun g => ?_) (fun g => ?_)
        · walk_at "do"
          refine wp_tk rfl (by decide) hw (by omega) ?_
          walk_at "do"
          refine ⟨by omega, by omega, fun t es t0 t1 hw => ?_⟩
          dsimp only [List.set]
          walk_at "do"
          exact q _ _ hw (by omega) (by omega)
        · walk_at "do"
          refine wp_tk rfl (by decide) hw (by omega) ?_
          walk_at "do"
          refine ⟨by omega, by omega, fun t es t0 t1 hw => ?_⟩
          dsimp only [List.set]
          walk_at "do"
          exact q _ _ hw (by omega) (by omega)
    refine wp_setv (by exact Nat.le_of_ble_eq_true rfl) ?_
    dsimp only [List.set]
    refine wp_seq (wp_set (low _ fun es lo hw l1 l2 => ⟨by exact Nat.le_of_ble_eq_true rfl, ?_⟩))
    dsimp only [List.set]
    have tail : ∀ hv : Int, hv ≤ 900 + (n - rest.length : Nat) → -hv ≤ 900 + (n - rest.length : Nat) → Wp (sApp 6 (xTup (dCons (xVar 8) (dCons (x2 addD (xVar 8) (callI 2 0 [0, 1, 2, 3, 4, 5, 6, 7, 8, 9, 10] F__law_take (aLate 0 (aVal (x2 addD (xVar 4) (xC (D.int 1))) (mP []))))) (mP [])))))
        [Ent.cel CK.io es, Ent.val (D.int ↑n), Ent.val d, Ent.val (D.int high), Ent.val (D.int wide), Ent.val (D.int kind), Ent.cel CK.own rows, Ent.val (D.int hv), Ent.val (D.int lo), Ent.no, Ent.no]
        fun fl r2 => (fl = Fl.nx ∨ fl = Fl.co) ∧ ∃ (es rows : List D) (kE lowE : Ent) (here : Int), r2 = [.cel .io es, .val (.int n), kE, .val (.int high), .val (.int wide), .val (.int kind), .cel .own rows, .val (.int here), lowE, .no, .no] ∧ rest.length ≤ n ∧ Well (K + 8 + 4 * (n - rest.length : Nat)) es ∧ rows.length = n - rest.length ∧ (∀ p ∈ rows, pairB p = true) ∧ here ≤ 900 + (n - rest.length : Nat) ∧ -here ≤ 900 + (n - rest.length : Nat) := by
      intro hv v1 v2
      refine wp_app ⟨_, _, rfl⟩ ?_
      walk_at "do"
      refine wp_tk rfl (by decide) hw (by omega) ?_
      walk_at "do"
      refine ⟨by omega, by omega, fun t es t0 t1 hw => ?_⟩
      dsimp only [List.set]
      walk_at "do"
      refine ⟨.own, rows, rfl, by show rows.length < 100000; omega, ?_⟩
      refine ⟨.inl rfl, _, _, _, _, _, rfl, by omega, ?_, ?_, fun p hp' => ?_, v1, v2⟩
      · obtain ⟨a, s, c, h1, h2⟩ := hw
        exact ⟨a, s, c, h1, by omega⟩
      · rw [List.length_append, List.length_singleton]; omega
      · rcases List.mem_append.mp hp' with h | h
        · exact hp p h
        · rw [List.mem_singleton.mp h]
          exact pair_ok (by omega) (by omega) (by omega)
    walk_at "do"
    refine ⟨fun g => ?_, fun g => ?_⟩
    · walk_at "do"
      exact tail lo l1 l2
    · walk_at "do"
      exact tail here (by omega) (by omega)
  · refine ⟨es, [], .no, .no, _, rfl, ?_, ?_, ?_, fun p hp => (nomatch hp), ?_, ?_⟩
    · rw [show (rgD 0 n).length = n by unfold rgD; rw [List.length_map, List.length_range]]; exact Nat.le_refl _
    · rw [show (rgD 0 n).length = n by unfold rgD; rw [List.length_map, List.length_range]]
      obtain ⟨a, s, c, h1, h2⟩ := hw
      exact ⟨a, s, c, h1, by omega⟩
    · rw [show (rgD 0 n).length = n by unfold rgD; rw [List.length_map, List.length_range], Nat.sub_self]; rfl
    · omega
    · omega
  · rintro r ⟨es, rows, kE, lowE, here, rfl, hl, hw, hlen, hp, b1, b2⟩
    rw [show ([] : List D).length = 0 from rfl, Nat.sub_zero] at hlen hw
    have getp : ∀ {l : List D} {i : Nat}, l.length = n → (∀ p ∈ l, pairB p = true) → i < n → ∃ a b, l[i]? = some (.tup [.int a, .int b]) ∧ -9999 ≤ a ∧ a ≤ b ∧ b ≤ 9999 := fun {l i} e hp hi => by
      have hi' : i < l.length := by omega
      obtain ⟨a, b, e1, e2⟩ := pairB_of (hp _ (List.getElem_mem hi'))
      exact ⟨a, b, by rw [List.getElem?_eq_getElem hi', e1], e2⟩
    have gett : ∀ {a b t : Int}, 0 ≤ t → t < 2 → -9999 ≤ a → a ≤ b → b ≤ 9999 → ∃ e, ixD (.tup [.int a, .int b]) (.int t) = some (.int e) ∧ -9999 ≤ e ∧ e ≤ 9999 := fun {a b t} t0 t1 h1 h2 h3 => by
      rcases (by omega : t = 0 ∨ t = 1) with rfl | rfl
      · exact ⟨_, rfl, by omega, by omega⟩
      · exact ⟨_, rfl, by omega, by omega⟩
    walk_at "do"
    obtain ⟨a, b, g1, g2, g3, g4⟩ := getp hlen hp (show 0 < n by omega)
    refine wp_O (ix_natL (i := 0) (by decide) g1) ?_
    walk_at "do"
    refine wp_tk rfl (by decide) hw (by omega) ?_
    walk_at "do"
    refine ⟨by omega, by omega, fun t es t0 t1 hw => ?_⟩
    dsimp only [List.set]
    obtain ⟨x, xa, xb, xc⟩ := gett t0 t1 g2 g3 g4
    refine wp_O xa ?_
    walk_at "do"
    refine ⟨.own, rows, rows.set 0 (.tup [.int x, .int x]), rfl, set_nat (i := 0) (by decide) (by show 0 < _; omega), ?_⟩
    dsimp only [List.set]
    have hp1 := set_all (i := 0) hp (pair_ok (a := x) (b := x) xb (by omega) xc)
    have hl1 : (rows.set 0 (.tup [.int x, .int x])).length = n := by rw [List.length_set]; exact hlen
    have hz1 : (rows.set 0 (.tup [.int x, .int x]))[0]? = some (.tup [.int x, .int x]) := by rw [List.getElem?_set_self (by omega)]
    generalize rows.set 0 (.tup [.int x, .int x]) = rows1 at hp1 hl1 hz1
    walk_at "do"
    obtain ⟨a, b, g1, g2, g3, g4⟩ := getp hl1 hp1 (show n - 1 < n by omega)
    have hn1 : ((n : Int) - 1).toNat = n - 1 := by omega
    refine wp_O (ix_natL (i := (n : Int) - 1) (by omega) (by rw [hn1]; exact g1)) ?_
    walk_at "do"
    refine wp_tk rfl (by decide) hw (by omega) ?_
    walk_at "do"
    refine ⟨by omega, by omega, fun t es t0 t1 hw => ?_⟩
    dsimp only [List.set]
    obtain ⟨y, ya, yb, yc⟩ := gett t0 t1 g2 g3 g4
    refine wp_O ya ?_
    walk_at "do"
    refine ⟨.own, rows1, rows1.set (n - 1) (.tup [.int y, .int y]), rfl, by rw [← hn1]; exact set_nat (by omega) (by omega), ?_⟩
    dsimp only [List.set]
    have hp2 := set_all (i := n - 1) hp1 (pair_ok (a := y) (b := y) yb (by omega) yc)
    have hl2 : (rows1.set (n - 1) (.tup [.int y, .int y])).length = n := by rw [List.length_set]; exact hl1
    have hz2 : (rows1.set (n - 1) (.tup [.int y, .int y]))[0]? = some (.tup [.int x, .int x]) := by rw [List.getElem?_set_ne (by omega)]; exact hz1
    have hy2 : (rows1.set (n - 1) (.tup [.int y, .int y]))[n - 1]? = some (.tup [.int y, .int y]) := by rw [List.getElem?_set_self (by omega)]
    generalize rows1.set (n - 1) (.tup [.int y, .int y]) = rows2 at hp2 hl2 hz2 hy2
    have hq : ∀ z : Int, eqP (.tup [.int z, .int z]) = true := fun z => decide_eq_true rfl
    have done : ∀ (es rows : List D) (e9 e10 : Ent) (kE : Ent), Well (K + 100) es → rows.length = n → (∀ p ∈ rows, pairB p = true) → rows[0]? = some (.tup [.int x, .int x]) → rows[n - 1]? = some (.tup [.int y, .int y]) → Wp (sRet (lend [] 6 noLst (xB tupB (dCons (xVar 6) (mP [])))))
        [Ent.cel CK.io es, Ent.val (D.int ↑n), kE, Ent.val (D.int high), Ent.val (D.int wide), Ent.val (D.int kind), Ent.cel CK.own rows, Ent.val (D.int here), lowE, e9, e10] fun fl r => ∃ ds, r[0]? = some (.cel .io ds) ∧ ((fl = .nx ∧ Q .non [.cel .io ds]) ∨ ∃ d, fl = .rt d ∧ Q d [.cel .io ds]) := by
      intro es rows e9 e10 kE w l p z1 z2
      walk_at "do"
      refine ⟨?_, ?_⟩
      · show (noLsts rows && true) = true
        rw [noLsts_pairs p]
        rfl
      · refine en_rtI rfl ?_
        exact q _ _ l (bounds_ok l n2 n9 p ⟨_, z1, hq x⟩ ⟨_, z2, hq y⟩) w
    walk_at "go"
    walk_at "go"
    walk_at "do"
    have wk : ∀ {j : Int} {es : List D}, Well j es → j ≤ K + 100 → Well (K + 100) es := fun {j es} ⟨a, s, c, h1, h2⟩ h => ⟨a, s, c, h1, by omega⟩
    refine br_d (fun g => ?_) (fun g => ?_)
    · walk_at "do"
      refine br_d (fun g => ?_) (fun g => ?_)
      · walk_at "do"
        refine wp_tk rfl (by decide) hw (by omega) ?_
        walk_at "do"
        refine ⟨by omega, by omega, fun t es t0 t1 hw => ?_⟩
        dsimp only [List.set]
        walk_at "do"
        refine wp_tk rfl (by decide) hw (by omega) ?_
        walk_at "do"
        refine ⟨by omega, by omega, fun u es u0 u1 hw => ?_⟩
        dsimp only [List.set]
        walk_at "do"
        refine wp_tk rfl (by decide) hw (by omega) ?_
        walk_at "do"
        refine ⟨by omega, by omega, fun v es v0 v1 hw => ?_⟩
        dsimp only [List.set]
        walk_at "do"
        refine ⟨.own, rows2, rows2.set (1 + t).toNat _, rfl, set_nat (by omega) (by omega), ?_⟩
        dsimp only [List.set]
        walk_at "go"
        refine done _ _ _ _ _ (wk hw (by omega)) (by rw [List.length_set]; exact hl2) (set_all hp2 (pair_ok (by omega) (by omega) (by omega))) (by rw [List.getElem?_set_ne (by omega)]; exact hz2) (by rw [List.getElem?_set_ne (by omega)]; exact hy2)
      · walk_at "go"
        walk_at "go"
        refine done _ _ _ _ _ (wk hw (by omega)) hl2 hp2 hz2 hy2
    · walk_at "go"
      walk_at "go"
      walk_at "go"
      refine done _ _ _ _ _ (wk hw (by omega)) hl2 hp2 hz2 hy2
end FL
namespace FL
open PySem PySem.Spec L2
local macro_rules | `(tactic| walk_at "go") => `(tactic| with_reducible first
  | refine wp_seq ?_ | refine wp_sIf ?_ | refine wp_ret ?_ | refine wp_set ?_ | refine wp_asg ?_ | refine wp_setL ?_ | refine wp_retL ?_ | refine wp_expr ?_
  | refine wp_2 ?_ | refine wp_1 ?_ | refine wp_C ?_ | refine wp_xB ?_ | refine wp_cons ?_ | refine wp_P ?_ | refine wp_xT ?_ | refine wp_tru ?_ | refine wp_tup ?_ | refine wp_lst ?_ | refine wp_fz ?_ | refine wp_oInt ?_ | refine wp_cut ?_
  | refine wp_and ?_ | refine wp_or ?_ | refine wp_not ?_ | refine wp_tAnd ?_ | refine wp_tOr ?_ | refine wp_tNot ?_ | refine wp_xIf ?_ | refine wp_chain ?_ | refine wp_par2 ?_ | refine wp_par3 ?_ | refine wp_parN ?_ | refine wp_pVal ?_ | refine wp_pNew ?_
  | refine wp_lB ?_ | refine wp_iOf ?_ | refine wp_iRow ?_ | refine wp_for ?_ | refine wp_forc ?_ | refine wp_forn ?_ | refine wp_gsCons ?_ | refine wp_gsNil ?_ | refine wp_its0 ?_ | refine wp_aVal ?_
  | refine fl_nx ?_ | refine fl_rt ?_ | refine fl_rtL ?_ | refine fl_co ?_ | refine fl_br ?_ | refine br_t ?_ | refine br_f ?_ | refine br_t' ?_ | refine br_f' ?_ | refine br_n ?_ | refine br_n' ?_ | refine en_rt ?_ | refine en_rtL ?_ | refine in_nx ?_ | refine in_co ?_ | refine it_nx ?_ | refine it_co ?_ | refine it_rt ?_ | refine it_br ?_ | refine ex_bl ?_ | refine ex_int ?_)
local macro_rules | `(tactic| walk_at "sd") => `(tactic| first
  | ((with_reducible refine' wp_var ?e ?_); case e => rfl)
  | ((with_reducible refine' wp_gsTup ?e ?_); case e => rfl)
  | ((with_reducible refine' wp_setv ?e ?_); (case e => exact Nat.le_of_ble_eq_true rfl); try dsimp only [List.set])
  | ((with_reducible refine' wp_itsV ?e ?_); (case e => exact Nat.le_of_ble_eq_true rfl); try dsimp only [List.set])
  | ((with_reducible refine' wp_itsN ?e ?_); (case e => exact Nat.le_of_ble_eq_true rfl); try dsimp only [List.set])
  | ((with_reducible refine' wp_lend' ?e ?_); case e => rfl)
  | ((with_reducible refine' wp_gsSub ?h ?c); case c => exact ⟨_, _, rfl⟩)
  | ((with_reducible refine' wp_late ?e ?_); case e => exact ⟨_, _, rfl⟩))
local macro_rules | `(tactic| walk_at "ex") => `(tactic| first
  | ((with_reducible refine' ex_sub ?e ?f ?_); (case e => rfl); (case f => rfl); try dsimp only [List.set])
  | ((with_reducible refine' ex_sb ?e ?_); case e => rfl)
  | ((with_reducible refine' ex_so ?e ?_); case e => rfl)
  | ((with_reducible refine' ex_p2 ?e ?f ?_); (case e => exact Nat.le_of_ble_eq_true rfl); (case f => exact Nat.le_of_ble_eq_true rfl); try dsimp only [List.set])
  | ((with_reducible refine' ex_p3 ?e ?f ?g ?_); (case e => exact Nat.le_of_ble_eq_true rfl); (case f => exact Nat.le_of_ble_eq_true rfl); (case g => exact Nat.le_of_ble_eq_true rfl); try dsimp only [List.set])
  | ((with_reducible refine' And.intro ?e ?_); (case e => rfl))
  | ((with_reducible refine' And.intro ?e ?_); (case e => exact Nat.le_of_ble_eq_true rfl); try dsimp only [List.set]))
local macro_rules | `(tactic| walk_at "op") => `(tactic| first
  | (with_reducible refine' wp_O (eq_int _ _) ?_)
  | (with_reducible refine' wp_O (ne_int _ _) ?_)
  | (with_reducible refine' wp_O (eq_bl _ _) ?_)
  | ((with_reducible refine' wp_O (mul_ok (small _ ?e) (small _ ?f)) ?_); (case e => omega); (case f => omega))
  | ((with_reducible refine' wp_O (mod_ok ?e) ?_); case e => omega)
  | ((with_reducible refine' wp_O (div_ok ?e (small _ ?f)) ?_); (case e => omega); case f => omega)
  | ((with_reducible refine' wp_O (dm_ok ?e ?f) ?_); (case e => omega); case f => omega)
  | ((with_reducible refine' wp_O ?e ?_); case e => rfl))
local macro_rules | `(tactic| walk_at "to") => `(tactic| repeat (first | walk_at "go" | walk_at "sd" | walk_at "ex"))
local macro_rules | `(tactic| walk_at "do") => `(tactic| repeat (first | walk_at "go" | walk_at "sd" | walk_at "op" | walk_at "ex"))
theorem abs_nat (i : Int) : (if i < 0 then -i else i) = (i.natAbs : Int) := by split <;> omega
theorem euclid : ∀ (k n x y : Nat), y < 2 ^ k → 2 * k + 1 ≤ n → ∀ e : Ent, Wp (whileD (mT (x2 gtD (xVar 1) (xC (.int 0)))) (sPar2 0 1 (dCons (xVar 1) (dCons (x2 modD (xB intB (dCons (xVar 0) (mP []))) (xVar 1)) (mP [])))) n) [.val (.int x), .val (.int y)] fun fl r => fl = .nx ∧ r = [.val (.int (Nat.gcd x y)), .val (.int 0)]
  | k, 0, x, y, _, hn, _ => by omega
  | k, n + 1, x, y, hy, hn, e => by
    refine wp_while1 ?_
    walk_at "do"
    refine br_d (fun g => ?_) (fun g => ?_)
    · have y0 : 0 < y := by omega
      match k, hy, hn with
      | 0, hy, hn => exact absurd hy (by simp; omega)
      | k + 1, hy, hn =>
        match n, hn with
        | n + 1, hn =>
          walk_at "do"
          refine wp_while1 ?_
          walk_at "do"
          rw [← Int.natCast_emod]
          refine br_d (fun g2 => ?_) (fun g2 => ?_)
          · have z0 : 0 < x % y := by omega
            walk_at "do"
            rw [← Int.natCast_emod]
            have hlt : x % y < y := Nat.mod_lt _ y0
            have h2 : 2 * (y % (x % y)) ≤ y := by
              have := half_mod (a := y) (b := (x % y : Nat)) (by omega) (by omega) (by omega)
              rw [← Int.natCast_emod] at this
              omega
            have := euclid k n (x % y) (y % (x % y)) (by rw [Nat.pow_succ] at hy; omega) (by omega) e
            rw [show Nat.gcd (x % y) (y % (x % y)) = Nat.gcd x y by rw [Nat.gcd_comm x y, Nat.gcd_rec y x, Nat.gcd_comm (x % y) y, Nat.gcd_comm, ← Nat.gcd_rec, Nat.gcd_comm]] at this
            exact this
          · walk_at "do"
            have z0 : x % y = 0 := by omega
            rw [z0, show Nat.gcd x y = y by rw [Nat.gcd_comm, Nat.gcd_rec, z0, Nat.gcd_zero_left]]
            rfl
    · walk_at "do"
      have y0 : y = 0 := by omega
      rw [y0, Nat.gcd_zero_right]
      rfl
theorem f_common {a b : Int} (h : b.natAbs < 2 ^ 490) {Q : D → List Ent → Prop} (q : Q (.int (Nat.gcd a.natAbs b.natAbs : Nat)) []) : WpF F__law_common (valsOf [.int a, .int b]) Q := by
  refine wp_def ?_
  unfold B__law_common
  show Wp _ [.val (.int a), .val (.int b)] _
  walk_at "do"
  simp only [abs_nat]
  refine (euclid 490 1000 a.natAbs b.natAbs h (by decide) .no).imp ?_
  rintro fl r ⟨rfl, rfl⟩
  walk_at "do"
  exact q
end FL
namespace FL
open PySem PySem.Spec L2
local macro_rules | `(tactic| walk_at "go") => `(tactic| with_reducible first
  | refine wp_seq ?_ | refine wp_sIf ?_ | refine wp_ret ?_ | refine wp_set ?_ | refine wp_asg ?_ | refine wp_setL ?_ | refine wp_retL ?_ | refine wp_expr ?_
  | refine wp_2 ?_ | refine wp_1 ?_ | refine wp_C ?_ | refine wp_xB ?_ | refine wp_cons ?_ | refine wp_P ?_ | refine wp_xT ?_ | refine wp_tru ?_ | refine wp_tup ?_ | refine wp_lst ?_ | refine wp_fz ?_ | refine wp_oInt ?_ | refine wp_cut ?_
  | refine wp_and ?_ | refine wp_or ?_ | refine wp_not ?_ | refine wp_tAnd ?_ | refine wp_tOr ?_ | refine wp_tNot ?_ | refine wp_xIf ?_ | refine wp_chain ?_ | refine wp_par2 ?_ | refine wp_par3 ?_ | refine wp_parN ?_ | refine wp_pVal ?_ | refine wp_pNew ?_
  | refine wp_lB ?_ | refine wp_iOf ?_ | refine wp_iRow ?_ | refine wp_for ?_ | refine wp_forc ?_ | refine wp_forn ?_ | refine wp_gsCons ?_ | refine wp_gsNil ?_ | refine wp_its0 ?_ | refine wp_aVal ?_
  | refine fl_nx ?_ | refine fl_rt ?_ | refine fl_rtL ?_ | refine fl_co ?_ | refine fl_br ?_ | refine br_t ?_ | refine br_f ?_ | refine br_t' ?_ | refine br_f' ?_ | refine br_n ?_ | refine br_n' ?_ | refine en_rt ?_ | refine en_rtL ?_ | refine in_nx ?_ | refine in_co ?_ | refine it_nx ?_ | refine it_co ?_ | refine it_rt ?_ | refine it_br ?_ | refine ex_bl ?_ | refine ex_int ?_)
local macro_rules | `(tactic| walk_at "sd") => `(tactic| first
  | ((with_reducible refine' wp_var ?e ?_); case e => rfl)
  | ((with_reducible refine' wp_gsTup ?e ?_); case e => rfl)
  | ((with_reducible refine' wp_setv ?e ?_); (case e => exact Nat.le_of_ble_eq_true rfl); try dsimp only [List.set])
  | ((with_reducible refine' wp_itsV ?e ?_); (case e => exact Nat.le_of_ble_eq_true rfl); try dsimp only [List.set])
  | ((with_reducible refine' wp_itsN ?e ?_); (case e => exact Nat.le_of_ble_eq_true rfl); try dsimp only [List.set])
  | ((with_reducible refine' wp_lend' ?e ?_); case e => rfl)
  | ((with_reducible refine' wp_gsSub ?h ?c); case c => exact ⟨_, _, rfl⟩)
  | ((with_reducible refine' wp_late ?e ?_); case e => exact ⟨_, _, rfl⟩))
local macro_rules | `(tactic| walk_at "ex") => `(tactic| first
  | ((with_reducible refine' ex_sub ?e ?f ?_); (case e => rfl); (case f => rfl); try dsimp only [List.set])
  | ((with_reducible refine' ex_sb ?e ?_); case e => rfl)
  | ((with_reducible refine' ex_so ?e ?_); case e => rfl)
  | ((with_reducible refine' ex_p2 ?e ?f ?_); (case e => exact Nat.le_of_ble_eq_true rfl); (case f => exact Nat.le_of_ble_eq_true rfl); try dsimp only [List.set])
  | ((with_reducible refine' ex_p3 ?e ?f ?g ?_); (case e => exact Nat.le_of_ble_eq_true rfl); (case f => exact Nat.le_of_ble_eq_true rfl); (case g => exact Nat.le_of_ble_eq_true rfl); try dsimp only [List.set])
  | ((with_reducible refine' And.intro ?e ?_); (case e => rfl))
  | ((with_reducible refine' And.intro ?e ?_); (case e => exact Nat.le_of_ble_eq_true rfl); try dsimp only [List.set]))
local macro_rules | `(tactic| walk_at "op") => `(tactic| first
  | (with_reducible refine' wp_O (eq_int _ _) ?_)
  | (with_reducible refine' wp_O (ne_int _ _) ?_)
  | (with_reducible refine' wp_O (eq_bl _ _) ?_)
  | ((with_reducible refine' wp_O (mul_ok (small _ ?e) (small _ ?f)) ?_); (case e => omega); (case f => omega))
  | ((with_reducible refine' wp_O (mod_ok ?e) ?_); case e => omega)
  | ((with_reducible refine' wp_O (div_ok ?e (small _ ?f)) ?_); (case e => omega); case f => omega)
  | ((with_reducible refine' wp_O (dm_ok ?e ?f) ?_); (case e => omega); case f => omega)
  | ((with_reducible refine' wp_O ?e ?_); case e => rfl))
local macro_rules | `(tactic| walk_at "to") => `(tactic| repeat (first | walk_at "go" | walk_at "sd" | walk_at "ex"))
local macro_rules | `(tactic| walk_at "do") => `(tactic| repeat (first | walk_at "go" | walk_at "sd" | walk_at "op" | walk_at "ex"))
theorem pow_le (i j : Nat) (h : i ≤ j) : 2 ^ i ≤ 2 ^ j := Nat.pow_le_pow_right (by decide) h
theorem f_part {n m : Int} (h0 : m ≠ 0) (hs : m.natAbs < 2 ^ 490) {Q : D → List Ent → Prop} (q : Q (fr (Rat.divInt n m)) []) : WpF F__law_part (valsOf [.int n, .int m]) Q := by
  refine wp_def ?_
  unfold B__law_part
  show Wp _ [.val (.int n), .val (.int m), .no] _
  have main : ∀ n m : Int, 0 < m → m.natAbs < 2 ^ 490 → Q (fr (Rat.divInt n m)) [] → Wp (sSeq (sSet 2 (callD 2 F__law_common (dCons (xVar 0) (dCons (xVar 1) (mP []))))) (sRet (xTup (dCons (x2 divD (xVar 0) (xVar 2)) (dCons (x2 divD (xVar 1) (xVar 2)) (mP [])))))) [.val (.int n), .val (.int m), .no] fun fl _ => (fl = .nx ∧ Q .non []) ∨ ∃ d, fl = .rt d ∧ Q d [] := by
    intro n m h0 hs q
    walk_at "do"
    refine wp_callD ?_
    walk_at "do"
    refine f_common hs ?_
    have hg : 0 < Nat.gcd n.natAbs m.natAbs := Nat.gcd_pos_of_pos_right _ (by omega)
    have hg2 : Nat.gcd n.natAbs m.natAbs ≤ m.natAbs := Nat.gcd_le_right _ (by omega)
    have hg3 : ((Nat.gcd n.natAbs m.natAbs : Nat) : Int).natAbs < 2 ^ 4096 := by
      rw [Int.natAbs_natCast]
      exact Nat.lt_of_lt_of_le (Nat.lt_of_le_of_lt hg2 hs) (pow_le _ _ (by decide))
    have hp := part_fr (n := n) (m := m) h0
    generalize Nat.gcd n.natAbs m.natAbs = g at *
    walk_at "to"
    refine wp_O (div_ok (by omega) hg3) ?_
    walk_at "to"
    refine wp_O (div_ok (by omega) hg3) ?_
    walk_at "to"
    rw [hp]
    exact q
  walk_at "do"
  refine br_d (fun g => ?_) (fun g => ?_)
  · repeat (first | (with_reducible refine' main (-n) (-m) ?a ?b ?c) | walk_at "go" | walk_at "sd" | walk_at "op" | walk_at "ex")
    · omega
    · omega
    · rw [Rat.neg_divInt_neg]
      exact q
  · walk_at "go"
    walk_at "go"
    exact main n m (by omega) hs q
def Sm (k : Nat) (q : Rat) : Prop := q.num.natAbs < 2 ^ k ∧ q.den < 2 ^ k
theorem Sm.mono {k j : Nat} {q : Rat} (h : Sm k q) (e : k ≤ j) : Sm j q := ⟨Nat.lt_of_lt_of_le h.1 (pow_le _ _ e), Nat.lt_of_lt_of_le h.2 (pow_le _ _ e)⟩
theorem lt_mul {i j x y : Nat} (h1 : x < 2 ^ i) (h2 : y < 2 ^ j) : x * y < 2 ^ (i + j) := by
  rw [Nat.pow_add]
  exact Nat.mul_lt_mul'' h1 h2
theorem sm_div {k : Nat} {n m : Int} (h0 : 0 < m) (h1 : n.natAbs < 2 ^ k) (h2 : m.natAbs < 2 ^ k) : Sm k (Rat.divInt n m) := by
  refine ⟨?_, ?_⟩
  · rw [Rat.num_divInt, Int.sign_eq_one_of_pos h0, Int.one_mul, Int.natAbs_ediv_of_dvd ?_]
    · exact Nat.lt_of_le_of_lt (Nat.div_le_self _ _) h1
    · exact Int.gcd_dvd_right ..
  · have := den_le (n := n) h0
    omega
theorem sm_add {j k : Nat} {a b : Rat} (ha : Sm j a) (hb : Sm k b) : Sm (j + k + 1) (a + b) := by
  rw [← add_fr]
  have d1 := a.den_pos
  have d2 := b.den_pos
  refine sm_div (Int.mul_pos (by omega) (by omega)) ?_ ?_
  · have h1 := lt_mul ha.1 hb.2
    have h2 := lt_mul hb.1 ha.2
    have h3 : (a.num * b.den + b.num * a.den).natAbs ≤ (a.num * b.den).natAbs + (b.num * a.den).natAbs := Int.natAbs_add_le ..
    rw [Int.natAbs_mul, Int.natAbs_mul, Int.natAbs_natCast, Int.natAbs_natCast] at h3
    rw [Nat.add_comm k j] at h2
    rw [Nat.pow_succ]
    omega
  · rw [Int.natAbs_mul, Int.natAbs_natCast, Int.natAbs_natCast]
    exact Nat.lt_of_lt_of_le (lt_mul ha.2 hb.2) (pow_le _ _ (by omega))
theorem sm_neg {k : Nat} {a : Rat} (h : Sm k a) : Sm k (-a) := ⟨by rw [Rat.neg_num, Int.natAbs_neg]; exact h.1, h.2⟩
theorem sm_sub {j k : Nat} {a b : Rat} (ha : Sm j a) (hb : Sm k b) : Sm (j + k + 1) (a - b) := by
  rw [Rat.sub_eq_add_neg]
  exact sm_add ha (sm_neg hb)
theorem sm_mul {j k : Nat} {a b : Rat} (ha : Sm j a) (hb : Sm k b) : Sm (j + k) (a * b) := by
  rw [← mul_fr]
  have d1 := a.den_pos
  have d2 := b.den_pos
  refine sm_div (Int.mul_pos (by omega) (by omega)) ?_ ?_
  · rw [Int.natAbs_mul]
    exact lt_mul ha.1 hb.1
  · rw [Int.natAbs_mul, Int.natAbs_natCast, Int.natAbs_natCast]
    exact lt_mul ha.2 hb.2
theorem mul_sm {x y : Int} (h1 : x.natAbs < 2 ^ 240) (h2 : y.natAbs < 2 ^ 240) : mulD (.int x) (.int y) = some (.int (x * y)) :=
  mul_ok (Nat.lt_of_lt_of_le h1 (pow_le _ _ (by decide))) (Nat.lt_of_lt_of_le h2 (pow_le _ _ (by decide)))
theorem den_sm {k : Nat} {q : Rat} (h : Sm k q) : (q.den : Int).natAbs < 2 ^ k := by rw [Int.natAbs_natCast]; exact h.2
theorem dens {a b : Rat} (ha : Sm 240 a) (hb : Sm 240 b) : ((a.den : Int) * b.den) ≠ 0 ∧ ((a.den : Int) * b.den).natAbs < 2 ^ 490 := by
  have d1 := a.den_pos
  have d2 := b.den_pos
  refine ⟨Int.ne_of_gt (Int.mul_pos (by omega) (by omega)), ?_⟩
  rw [Int.natAbs_mul, Int.natAbs_natCast, Int.natAbs_natCast]
  exact Nat.lt_of_lt_of_le (lt_mul ha.2 hb.2) (pow_le _ _ (by decide))
theorem f_plus {a b : Rat} (ha : Sm 240 a) (hb : Sm 240 b) {Q : D → List Ent → Prop} (q : Q (fr (a + b)) []) : WpF F__law_plus (valsOf [fr a, fr b]) Q := by
  refine wp_def ?_
  unfold B__law_plus
  show Wp _ [.val (.tup [.int a.num, .int a.den]), .val (.tup [.int b.num, .int b.den])] _
  walk_at "do"
  refine wp_callD ?_
  walk_at "do"
  refine wp_O (mul_sm ha.1 (den_sm hb)) ?_
  walk_at "do"
  refine wp_O (mul_sm hb.1 (den_sm ha)) ?_
  walk_at "do"
  refine wp_O (mul_sm (den_sm ha) (den_sm hb)) ?_
  walk_at "do"
  refine f_part (dens ha hb).1 (dens ha hb).2 ?_
  rw [add_fr]
  walk_at "do"
  exact q
theorem f_minus {a b : Rat} (ha : Sm 240 a) (hb : Sm 240 b) {Q : D → List Ent → Prop} (q : Q (fr (a - b)) []) : WpF F__law_minus (valsOf [fr a, fr b]) Q := by
  refine wp_def ?_
  unfold B__law_minus
  show Wp _ [.val (.tup [.int a.num, .int a.den]), .val (.tup [.int b.num, .int b.den])] _
  walk_at "do"
  refine wp_callD ?_
  walk_at "do"
  refine wp_O (mul_sm ha.1 (den_sm hb)) ?_
  walk_at "do"
  refine wp_O (mul_sm hb.1 (den_sm ha)) ?_
  walk_at "do"
  refine wp_O (mul_sm (den_sm ha) (den_sm hb)) ?_
  walk_at "do"
  refine f_part (dens ha hb).1 (dens ha hb).2 ?_
  rw [sub_fr]
  walk_at "do"
  exact q
theorem f_times {a b : Rat} (ha : Sm 240 a) (hb : Sm 240 b) {Q : D → List Ent → Prop} (q : Q (fr (a * b)) []) : WpF F__law_times (valsOf [fr a, fr b]) Q := by
  refine wp_def ?_
  unfold B__law_times
  show Wp _ [.val (.tup [.int a.num, .int a.den]), .val (.tup [.int b.num, .int b.den])] _
  walk_at "do"
  refine wp_callD ?_
  walk_at "do"
  refine wp_O (mul_sm ha.1 hb.1) ?_
  walk_at "do"
  refine wp_O (mul_sm (den_sm ha) (den_sm hb)) ?_
  walk_at "do"
  refine f_part (dens ha hb).1 (dens ha hb).2 ?_
  rw [mul_fr]
  walk_at "do"
  exact q
theorem f_lless {a b c d : Int} (ha : a.natAbs < 2 ^ 240) (hb : b.natAbs < 2 ^ 240) (hc : c.natAbs < 2 ^ 240) (hd : d.natAbs < 2 ^ 240) {Q : D → List Ent → Prop} (q : Q (.bl (decide (a * d < c * b))) []) : WpF F__law_less (valsOf [.tup [.int a, .int b], .tup [.int c, .int d]]) Q := by
  refine wp_def ?_
  unfold B__law_less
  show Wp _ [.val (.tup [.int a, .int b]), .val (.tup [.int c, .int d])] _
  walk_at "do"
  refine wp_O (mul_sm ha hd) ?_
  walk_at "do"
  refine wp_O (mul_sm hc hb) ?_
  walk_at "do"
  exact q
theorem f_less {a b c d : Int} (ha : a.natAbs < 2 ^ 240) (hb : b.natAbs < 2 ^ 240) (hc : c.natAbs < 2 ^ 240) (hd : d.natAbs < 2 ^ 240) {Q : D → List Ent → Prop} (q : Q (.bl (decide (a * d < c * b))) []) : WpF F_is_less (valsOf [.tup [.int a, .int b], .tup [.int c, .int d]]) Q := by
  refine wp_def ?_
  unfold B_is_less
  show Wp _ [.val (.tup [.int a, .int b]), .val (.tup [.int c, .int d])] _
  walk_at "do"
  refine wp_O (mul_sm ha hd) ?_
  walk_at "do"
  refine wp_O (mul_sm hc hb) ?_
  walk_at "do"
  exact q
end FL
namespace FL
open PySem PySem.Spec L2
local macro_rules | `(tactic| walk_at "go") => `(tactic| with_reducible first
  | refine wp_seq ?_ | refine wp_sIf ?_ | refine wp_ret ?_ | refine wp_set ?_ | refine wp_asg ?_ | refine wp_setL ?_ | refine wp_retL ?_ | refine wp_expr ?_
  | refine wp_2 ?_ | refine wp_1 ?_ | refine wp_C ?_ | refine wp_xB ?_ | refine wp_cons ?_ | refine wp_P ?_ | refine wp_xT ?_ | refine wp_tru ?_ | refine wp_tup ?_ | refine wp_lst ?_ | refine wp_fz ?_ | refine wp_oInt ?_ | refine wp_cut ?_
  | refine wp_and ?_ | refine wp_or ?_ | refine wp_not ?_ | refine wp_tAnd ?_ | refine wp_tOr ?_ | refine wp_tNot ?_ | refine wp_xIf ?_ | refine wp_chain ?_ | refine wp_par2 ?_ | refine wp_par3 ?_ | refine wp_parN ?_ | refine wp_pVal ?_ | refine wp_pNew ?_
  | refine wp_lB ?_ | refine wp_iOf ?_ | refine wp_iRow ?_ | refine wp_for ?_ | refine wp_forc ?_ | refine wp_forn ?_ | refine wp_gsCons ?_ | refine wp_gsNil ?_ | refine wp_its0 ?_ | refine wp_aVal ?_
  | refine fl_nx ?_ | refine fl_rt ?_ | refine fl_rtL ?_ | refine fl_co ?_ | refine fl_br ?_ | refine br_t ?_ | refine br_f ?_ | refine br_t' ?_ | refine br_f' ?_ | refine br_n ?_ | refine br_n' ?_ | refine en_rt ?_ | refine en_rtL ?_ | refine in_nx ?_ | refine in_co ?_ | refine it_nx ?_ | refine it_co ?_ | refine it_rt ?_ | refine it_br ?_ | refine ex_bl ?_ | refine ex_int ?_)
local macro_rules | `(tactic| walk_at "sd") => `(tactic| first
  | ((with_reducible refine' wp_var ?e ?_); case e => rfl)
  | ((with_reducible refine' wp_gsTup ?e ?_); case e => rfl)
  | ((with_reducible refine' wp_setv ?e ?_); (case e => exact Nat.le_of_ble_eq_true rfl); try dsimp only [List.set])
  | ((with_reducible refine' wp_itsV ?e ?_); (case e => exact Nat.le_of_ble_eq_true rfl); try dsimp only [List.set])
  | ((with_reducible refine' wp_itsN ?e ?_); (case e => exact Nat.le_of_ble_eq_true rfl); try dsimp only [List.set])
  | ((with_reducible refine' wp_lend' ?e ?_); case e => rfl)
  | ((with_reducible refine' wp_gsSub ?h ?c); case c => exact ⟨_, _, rfl⟩)
  | ((with_reducible refine' wp_late ?e ?_); case e => exact ⟨_, _, rfl⟩))
local macro_rules | `(tactic| walk_at "ex") => `(tactic| first
  | ((with_reducible refine' ex_sub ?e ?f ?_); (case e => rfl); (case f => rfl); try dsimp only [List.set])
  | ((with_reducible refine' ex_sb ?e ?_); case e => rfl)
  | ((with_reducible refine' ex_so ?e ?_); case e => rfl)
  | ((with_reducible refine' ex_p2 ?e ?f ?_); (case e => exact Nat.le_of_ble_eq_true rfl); (case f => exact Nat.le_of_ble_eq_true rfl); try dsimp only [List.set])
  | ((with_reducible refine' ex_p3 ?e ?f ?g ?_); (case e => exact Nat.le_of_ble_eq_true rfl); (case f => exact Nat.le_of_ble_eq_true rfl); (case g => exact Nat.le_of_ble_eq_true rfl); try dsimp only [List.set])
  | ((with_reducible refine' And.intro ?e ?_); (case e => rfl))
  | ((with_reducible refine' And.intro ?e ?_); (case e => exact Nat.le_of_ble_eq_true rfl); try dsimp only [List.set]))
local macro_rules | `(tactic| walk_at "op") => `(tactic| first
  | (with_reducible refine' wp_O (eq_int _ _) ?_)
  | (with_reducible refine' wp_O (ne_int _ _) ?_)
  | (with_reducible refine' wp_O (eq_bl _ _) ?_)
  | ((with_reducible refine' wp_O (mul_ok (small _ ?e) (small _ ?f)) ?_); (case e => omega); (case f => omega))
  | ((with_reducible refine' wp_O (mod_ok ?e) ?_); case e => omega)
  | ((with_reducible refine' wp_O (div_ok ?e (small _ ?f)) ?_); (case e => omega); case f => omega)
  | ((with_reducible refine' wp_O (dm_ok ?e ?f) ?_); (case e => omega); case f => omega)
  | ((with_reducible refine' wp_O ?e ?_); case e => rfl))
local macro_rules | `(tactic| walk_at "to") => `(tactic| repeat (first | walk_at "go" | walk_at "sd" | walk_at "ex"))
local macro_rules | `(tactic| walk_at "do") => `(tactic| repeat (first | walk_at "go" | walk_at "sd" | walk_at "op" | walk_at "ex"))
def good2 : D → Bool
  | .tup ds => ds.all hasTy
  | d => hasTy d
def good3 : D → Bool
  | .tup ds => ds.all good2
  | d => hasTy d
theorem ty2_of {d : D} (h : good2 d = true) : ty2 d := by
  cases d <;> first | exact ⟨h, fun ds e => nomatch e⟩ | skip
  rename_i ds
  exact ⟨rfl, fun es e => by cases e; exact List.all_eq_true.mp h⟩
theorem ty3_of {d : D} (h : good3 d = true) : ty3 d := by
  cases d <;> first | exact ⟨h, fun ds e => nomatch e⟩ | skip
  rename_i ds
  exact ⟨rfl, fun es e => by cases e; exact fun x hx => ty2_of (List.all_eq_true.mp h x hx)⟩
theorem good2_pair {p : D} (h : pairB p = true) : good2 p = true := by
  obtain ⟨a, b, rfl, _⟩ := pairB_of h
  rfl
theorem good3_pair {p : D} (h : pairB p = true) : good3 p = true := by
  obtain ⟨a, b, rfl, _⟩ := pairB_of h
  rfl
theorem frac_no {x y : D} (h : isIntD x = false ∨ isIntD y = false) : fracB (.tup [x, y]) = false := by
  cases x <;> cases y <;> first | rfl | (rcases h with h | h <;> cases h)
theorem f_isfr {d : D} (h : ty2 d) {Q : D → List Ent → Prop} (q : Q (.bl (fracB d)) []) : WpF F_is_fraction_by (valsOf [d]) Q := by
  refine wp_def ?_
  unfold B_is_fraction_by
  show Wp _ [.val d] _
  walk_at "do"
  refine wp_callD ?_
  walk_at "do"
  refine f_tof h.1 ?_
  walk_at "do"
  refine ⟨fun e => ?_, fun e => ?_⟩
  · obtain ⟨x, y, rfl⟩ := isLen2 e
    have hx := h.2 _ rfl x (List.mem_cons_self ..)
    have hy := h.2 _ rfl y (List.mem_cons_of_mem _ (List.mem_cons_self ..))
    walk_at "do"
    refine wp_callD ?_
    walk_at "do"
    refine f_whole hx ?_
    walk_at "do"
    refine ⟨fun e2 => ?_, fun e2 => ?_⟩
    · walk_at "do"
      refine wp_callD ?_
      walk_at "do"
      refine f_whole hy ?_
      walk_at "do"
      refine ⟨fun e3 => ?_, fun e3 => ?_⟩
      · cases x <;> try (cases e2; done)
        cases y <;> try (cases e3; done)
        rename_i n m
        walk_at "do"
        refine br_d (fun g => ?_) (fun g => ?_)
        · walk_at "do"
          rw [show fracB (.tup [.int n, .int m]) = false by show (decide (0 < m) && _) = false; rw [decide_eq_false (by omega), Bool.false_and]] at q
          exact q
        · walk_at "do"
          rw [show fracB (.tup [.int n, .int m]) = decide (((Nat.gcd n.natAbs m.natAbs : Nat) : Int) = 1) by
            show (decide (0 < m) && _) = _
            rw [decide_eq_true (show 0 < m by omega), Bool.true_and]
            exact decide_eq_decide.mpr (by omega)] at q
          exact q
      · walk_at "do"
        rw [frac_no (.inr e3)] at q
        exact q
    · walk_at "do"
      rw [frac_no (.inl e2)] at q
      exact q
  · walk_at "do"
    have : fracB d = false := by
      unfold fracB
      split
      · cases e
      · rfl
    rw [← this]
    exact q
theorem f_lisfr {d : D} (h : ty2 d) (hb : ∀ n m, d = .tup [.int n, .int m] → m.natAbs < 2 ^ 490) {Q : D → List Ent → Prop} (q : Q (.bl (fracB d)) []) : WpF F__law_is_fraction (valsOf [d]) Q := by
  refine wp_def ?_
  unfold B__law_is_fraction
  show Wp _ [.val d] _
  walk_at "do"
  refine wp_O (isB_tup h.1) ?_
  walk_at "do"
  refine ⟨fun e => ?_, fun e => ?_⟩
  · cases d <;> try (cases e; done)
    rename_i ds
    walk_at "do"
    refine br_d (fun h1 => ?_) (fun h1 => ?_)
    · obtain ⟨x, y, hd⟩ := isLen2 (d := .tup ds) (decide_eq_true h1)
      cases hd
      have hx := h.2 _ rfl x (List.mem_cons_self ..)
      have hy := h.2 _ rfl y (List.mem_cons_of_mem _ (List.mem_cons_self ..))
      walk_at "do"
      refine wp_callD ?_
      walk_at "do"
      refine f_lwhole hx ?_
      walk_at "do"
      refine ⟨fun e2 => ?_, fun e2 => ?_⟩
      · walk_at "do"
        refine wp_callD ?_
        walk_at "do"
        refine f_lwhole hy ?_
        walk_at "do"
        refine ⟨fun e3 => ?_, fun e3 => ?_⟩
        · cases x <;> try (cases e2; done)
          cases y <;> try (cases e3; done)
          rename_i n m
          walk_at "do"
          refine br_d (fun g => ?_) (fun g => ?_)
          · walk_at "do"
            refine wp_callD ?_
            walk_at "do"
            refine f_common (hb n m rfl) ?_
            walk_at "do"
            rw [show fracB (.tup [.int n, .int m]) = decide (((Nat.gcd n.natAbs m.natAbs : Nat) : Int) = 1) by
              show (decide (0 < m) && _) = _
              rw [decide_eq_true (show 0 < m by omega), Bool.true_and]
              exact decide_eq_decide.mpr (by omega)] at q
            exact q
          · walk_at "do"
            rw [show fracB (.tup [.int n, .int m]) = false by show (decide (0 < m) && _) = false; rw [decide_eq_false (by omega), Bool.false_and]] at q
            rw [decide_eq_false g]
            exact q
        · walk_at "do"
          rw [frac_no (.inr e3)] at q
          rw [e3]
          exact q
      · walk_at "do"
        rw [frac_no (.inl e2)] at q
        rw [e2]
        exact q
    · walk_at "do"
      have : fracB (.tup ds) = false := by
        unfold fracB
        split
        · rename_i e2; cases e2; exact (h1 rfl).elim
        · rfl
      rw [this] at q
      rw [decide_eq_false h1]
      exact q
  · walk_at "do"
    have : fracB d = isTupD d := by cases d <;> first | rfl | (cases e; done)
    rw [← this]
    exact q
end FL
namespace FL
open PySem PySem.Spec L2
local macro_rules | `(tactic| walk_at "go") => `(tactic| with_reducible first
  | refine wp_seq ?_ | refine wp_sIf ?_ | refine wp_ret ?_ | refine wp_set ?_ | refine wp_asg ?_ | refine wp_setL ?_ | refine wp_retL ?_ | refine wp_expr ?_
  | refine wp_2 ?_ | refine wp_1 ?_ | refine wp_C ?_ | refine wp_xB ?_ | refine wp_cons ?_ | refine wp_P ?_ | refine wp_xT ?_ | refine wp_tru ?_ | refine wp_tup ?_ | refine wp_lst ?_ | refine wp_fz ?_ | refine wp_oInt ?_ | refine wp_cut ?_
  | refine wp_and ?_ | refine wp_or ?_ | refine wp_not ?_ | refine wp_tAnd ?_ | refine wp_tOr ?_ | refine wp_tNot ?_ | refine wp_xIf ?_ | refine wp_chain ?_ | refine wp_par2 ?_ | refine wp_par3 ?_ | refine wp_parN ?_ | refine wp_pVal ?_ | refine wp_pNew ?_
  | refine wp_lB ?_ | refine wp_iOf ?_ | refine wp_iRow ?_ | refine wp_for ?_ | refine wp_forc ?_ | refine wp_forn ?_ | refine wp_gsCons ?_ | refine wp_gsNil ?_ | refine wp_its0 ?_ | refine wp_aVal ?_
  | refine fl_nx ?_ | refine fl_rt ?_ | refine fl_rtL ?_ | refine fl_co ?_ | refine fl_br ?_ | refine br_t ?_ | refine br_f ?_ | refine br_t' ?_ | refine br_f' ?_ | refine br_n ?_ | refine br_n' ?_ | refine en_rt ?_ | refine en_rtL ?_ | refine in_nx ?_ | refine in_co ?_ | refine it_nx ?_ | refine it_co ?_ | refine it_rt ?_ | refine it_br ?_ | refine ex_bl ?_ | refine ex_int ?_)
local macro_rules | `(tactic| walk_at "sd") => `(tactic| first
  | ((with_reducible refine' wp_var ?e ?_); case e => rfl)
  | ((with_reducible refine' wp_gsTup ?e ?_); case e => rfl)
  | ((with_reducible refine' wp_setv ?e ?_); (case e => exact Nat.le_of_ble_eq_true rfl); try dsimp only [List.set])
  | ((with_reducible refine' wp_itsV ?e ?_); (case e => exact Nat.le_of_ble_eq_true rfl); try dsimp only [List.set])
  | ((with_reducible refine' wp_itsN ?e ?_); (case e => exact Nat.le_of_ble_eq_true rfl); try dsimp only [List.set])
  | ((with_reducible refine' wp_lend' ?e ?_); case e => rfl)
  | ((with_reducible refine' wp_gsSub ?h ?c); case c => exact ⟨_, _, rfl⟩)
  | ((with_reducible refine' wp_late ?e ?_); case e => exact ⟨_, _, rfl⟩))
local macro_rules | `(tactic| walk_at "ex") => `(tactic| first
  | ((with_reducible refine' ex_sub ?e ?f ?_); (case e => rfl); (case f => rfl); try dsimp only [List.set])
  | ((with_reducible refine' ex_sb ?e ?_); case e => rfl)
  | ((with_reducible refine' ex_so ?e ?_); case e => rfl)
  | ((with_reducible refine' ex_p2 ?e ?f ?_); (case e => exact Nat.le_of_ble_eq_true rfl); (case f => exact Nat.le_of_ble_eq_true rfl); try dsimp only [List.set])
  | ((with_reducible refine' ex_p3 ?e ?f ?g ?_); (case e => exact Nat.le_of_ble_eq_true rfl); (case f => exact Nat.le_of_ble_eq_true rfl); (case g => exact Nat.le_of_ble_eq_true rfl); try dsimp only [List.set])
  | ((with_reducible refine' And.intro ?e ?_); (case e => rfl))
  | ((with_reducible refine' And.intro ?e ?_); (case e => exact Nat.le_of_ble_eq_true rfl); try dsimp only [List.set]))
local macro_rules | `(tactic| walk_at "op") => `(tactic| first
  | (with_reducible refine' wp_O (eq_int _ _) ?_)
  | (with_reducible refine' wp_O (ne_int _ _) ?_)
  | (with_reducible refine' wp_O (eq_bl _ _) ?_)
  | ((with_reducible refine' wp_O (mul_ok (small _ ?e) (small _ ?f)) ?_); (case e => omega); (case f => omega))
  | ((with_reducible refine' wp_O (mod_ok ?e) ?_); case e => omega)
  | ((with_reducible refine' wp_O (div_ok ?e (small _ ?f)) ?_); (case e => omega); case f => omega)
  | ((with_reducible refine' wp_O (dm_ok ?e ?f) ?_); (case e => omega); case f => omega)
  | ((with_reducible refine' wp_O ?e ?_); case e => rfl))
local macro_rules | `(tactic| walk_at "to") => `(tactic| repeat (first | walk_at "go" | walk_at "sd" | walk_at "ex"))
local macro_rules | `(tactic| walk_at "do") => `(tactic| repeat (first | walk_at "go" | walk_at "sd" | walk_at "op" | walk_at "ex"))
def runB : D → Bool
  | .tup ds => decide (2 ≤ ds.length) && decide (ds.length ≤ 9) && ds.all fracB
  | _ => false
def fwPf : D → Bool
  | .tup [_, e] => !fracB e
  | _ => false
theorem fw_rowf (ds : List D) : (ds.all fracB = true → ((enumD ds).filter fwPf).map fwF = []) ∧ (ds.all fracB = false → ∃ i l, ((enumD ds).filter fwPf).map fwF = .int i :: l) := by
  have hm : ∀ e ∈ enumD ds, ∃ (i : Nat) (x : D), x ∈ ds ∧ e = .tup [.int i, x] := fun e he => by
    obtain ⟨i, hi, rfl⟩ := List.mem_map.mp he
    have hi := List.mem_range.mp hi
    exact ⟨i, ds.getD i .non, by rw [getD_at hi]; exact List.getElem_mem hi, rfl⟩
  constructor
  · intro h
    rw [List.filter_eq_nil_iff.mpr (fun e he => ?_)]
    · rfl
    · obtain ⟨i, x, hx, rfl⟩ := hm e he
      show ¬ (!fracB x) = true
      rw [List.all_eq_true.mp h x hx]
      decide
  · intro h
    obtain ⟨x, hx, hp⟩ : ∃ x ∈ ds, fracB x = false := by
      by_cases c : ∃ x ∈ ds, fracB x = false
      · exact c
      · exfalso
        have : ds.all fracB = true := List.all_eq_true.mpr fun x hx => by
          cases q : fracB x with
          | true => rfl
          | false => exact (c ⟨x, hx, q⟩).elim
        rw [this] at h
        cases h
    obtain ⟨i, hi, e⟩ := List.mem_iff_getElem.mp hx
    have hin : (D.tup [.int (i : Nat), x]) ∈ (enumD ds).filter fwPf := by
      refine List.mem_filter.mpr ⟨List.mem_map.mpr ⟨i, List.mem_range.mpr hi, ?_⟩, ?_⟩
      · rw [getD_at hi, e]
      · show (!fracB x) = true
        rw [hp]; rfl
    match q : (enumD ds).filter fwPf with
    | [] => rw [q] at hin; cases hin
    | y :: l =>
      have hy : y ∈ enumD ds := (List.mem_filter.mp (by rw [q]; exact List.mem_cons_self ..)).1
      obtain ⟨j, z, _, rfl⟩ := hm y hy
      exact ⟨j, l.map fwF, rfl⟩
theorem f_fwf {d : D} (h : ty3 d) {Q : D → List Ent → Prop} (q1 : runB d = true → Q (.lst []) []) (q2 : runB d = false → ∀ z, (z = .non ∨ ∃ i, z = .int i) → Q (.lst [z]) []) :
    WpF F_first_wrong__is_fraction_by (valsOf [d, .int 2, .int 9, .dfn "is_fraction_by"]) Q := by
  refine wp_def ?_
  unfold B_first_wrong__is_fraction_by
  show Wp _ [.val d, .val (.int 2), .val (.int 9), .val (.dfn "is_fraction_by"), .no, .no] _
  walk_at "do"
  refine wp_O (isB_tup h.1) ?_
  walk_at "do"
  refine ⟨fun e => ?_, fun e => ?_⟩
  · cases d <;> try (cases e; done)
    rename_i ds
    walk_at "do"
    refine br_d (fun h1 => ?_) (fun h1 => ?_)
    · walk_at "do"
      refine ⟨fun e => ?_, fun e => ?_⟩
      · have h2 := of_decide_eq_false e
        walk_at "do"
        have : runB (.tup ds) = false := by unfold runB; simp only; rw [decide_eq_false (show ¬ ds.length ≤ 9 by omega), Bool.and_false, Bool.false_and]
        exact q2 this _ (.inl rfl)
      · have h2 := of_decide_eq_true e
        have h1' : 2 ≤ ds.length := by omega
        have h2' : ds.length ≤ 9 := by omega
        walk_at "do"
        refine wp_comp fwPf fwF ?_
        walk_at "do"
        have hl : (enumD ds).length ≤ most := by unfold enumD; rw [List.length_map, List.length_range]; show ds.length ≤ 100000; omega
        refine ⟨hl, fun e he => ?_, ?_⟩
        · obtain ⟨i, hi, rfl⟩ := List.mem_map.mp he
          have hi := List.mem_range.mp hi
          have hx : ty2 (ds.getD i .non) := h.2 _ rfl _ (by rw [getD_at hi]; exact List.getElem_mem hi)
          walk_at "do"
          refine wp_callP rfl ?_
          walk_at "do"
          refine f_isfr hx ?_
          walk_at "do"
          refine ⟨fun e => ?_, fun e => rfl⟩
          walk_at "do"
          rfl
        · walk_at "do"
          have hh := fw_rowf ds
          have hr : runB (.tup ds) = ds.all fracB := by unfold runB; simp only; rw [decide_eq_true h1', decide_eq_true h2']; rfl
          cases c : ds.all fracB with
          | true =>
            rw [hh.1 c, cut0]
            exact q1 (hr.trans c)
          | false =>
            obtain ⟨i, l, e⟩ := hh.2 c
            rw [e, cut1]
            exact q2 (hr.trans c) _ (.inr ⟨i, rfl⟩)
    · walk_at "do"
      have : runB (.tup ds) = false := by unfold runB; simp only; rw [decide_eq_false (show ¬ 2 ≤ ds.length by omega), Bool.false_and, Bool.false_and]
      exact q2 this _ (.inl rfl)
  · walk_at "do"
    have : runB d = false := by cases d <;> first | rfl | (cases e; done)
    exact q2 this _ (.inl rfl)
theorem f_runby {d : D} (h : ty3 d) {Q : D → List Ent → Prop} (q : Q (.bl (runB d)) []) : WpF F_is_run_by (valsOf [d]) Q := by
  refine wp_def ?_
  unfold B_is_run_by
  show Wp _ [.val d] _
  walk_at "do"
  refine wp_callD ?_
  walk_at "do"
  refine f_fwf h (fun e => ?_) fun e z hz => ?_
  · walk_at "to"
    refine wp_O (a := D.bl true) rfl ?_
    walk_at "do"
    rw [e] at q
    exact q
  · walk_at "to"
    have : eqD (.lst [z]) (.lst []) = some (.bl false) := by
      rcases hz with rfl | ⟨i, rfl⟩ <;> rfl
    refine wp_O this ?_
    walk_at "do"
    rw [e] at q
    exact q
theorem f_isrun {d : D} (h : ty3 d) {Q : D → List Ent → Prop} (q : Q (.bl (runB d)) []) : WpF F_is_run (valsOf [d]) Q := by
  refine wp_def ?_
  unfold B_is_run
  show Wp _ [.val d] _
  walk_at "do"
  refine wp_callD ?_
  walk_at "do"
  refine f_runby h ?_
  walk_at "do"
  exact q
theorem f_cbounds {d : D} (h : ty3 d) (hb : boundsB d = true) {Q : D → List Ent → Prop} (q : Q .non []) : WpF F_check_bounds (valsOf [d]) Q := by
  refine wp_def ?_
  unfold B_check_bounds
  show Wp _ [.val d] _
  walk_at "do"
  refine wp_callD ?_
  walk_at "do"
  refine f_are h ?_
  rw [hb]
  walk_at "do"
  exact en_nx q
theorem f_crun {d : D} (h : ty3 d) (hb : runB d = true) {Q : D → List Ent → Prop} (q : Q .non []) : WpF F_check_run (valsOf [d]) Q := by
  refine wp_def ?_
  unfold B_check_run
  show Wp _ [.val d] _
  walk_at "do"
  refine wp_callD ?_
  walk_at "do"
  refine f_runby h ?_
  rw [hb]
  walk_at "do"
  exact en_nx q
theorem f_crunof {bs rs : List D} (h1 : ty3 (.tup bs)) (hb : boundsB (.tup bs) = true) (h2 : ty3 (.tup rs)) (hr : runB (.tup rs) = true) (hl : rs.length = bs.length) {Q : D → List Ent → Prop} (q : Q .non []) : WpF F_check_run_of (valsOf [.tup bs, .tup rs]) Q := by
  refine wp_def ?_
  unfold B_check_run_of
  show Wp _ [.val (.tup bs), .val (.tup rs)] _
  walk_at "do"
  refine wp_callD ?_
  walk_at "do"
  refine f_cbounds h1 hb ?_
  walk_at "do"
  refine wp_callD ?_
  walk_at "do"
  refine f_crun h2 hr ?_
  walk_at "do"
  rw [hl]
  refine ⟨fun e => ?_, fun e => ?_⟩
  · simp at e
  · walk_at "do"
    exact en_nx q
def inB (p h : D) : Bool := match p, h with
  | .tup [.int lo, .int hi], .tup [.int n, .int m] => !decide (n * 1 < lo * m) && !decide (hi * m < n * 1)
  | _, _ => false
/-- small enough -/
def SmD (d : D) : Prop := ∃ n m : Int, d = .tup [.int n, .int m] ∧ n.natAbs < 2 ^ 240 ∧ m.natAbs < 2 ^ 240
theorem pw9 {a : Int} (h : a.natAbs < 2 ^ 64) : a.natAbs < 2 ^ 240 := Nat.lt_of_lt_of_le h (pow_le _ _ (by decide))
theorem f_hw {p h : D} (hp : pairB p = true) (hh : SmD h) {Q : D → List Ent → Prop} (q : Q (.bl (inB p h)) []) : WpF F_is_height_within (valsOf [p, h]) Q := by
  obtain ⟨lo, hi, rfl, b1, b2, b3⟩ := pairB_of hp
  obtain ⟨n, m, rfl, s1, s2⟩ := hh
  refine wp_def ?_
  unfold B_is_height_within
  show Wp _ [.val (.tup [.int lo, .int hi]), .val (.tup [.int n, .int m])] _
  have fw : ∀ (z : Int) (Q : D → List Ent → Prop), Q (.tup [.int z, .int 1]) [] → WpF F_whole (valsOf [.int z]) Q := by
    intro z Q q
    refine wp_def ?_
    unfold B_whole
    show Wp _ [.val (.int z)] _
    walk_at "do"
    exact q
  walk_at "do"
  refine wp_callD ?_
  walk_at "do"
  refine wp_callD ?_
  walk_at "do"
  refine fw _ _ ?_
  walk_at "do"
  refine f_less s1 s2 (pw9 (by omega)) (pw9 (by omega)) ?_
  walk_at "do"
  have e : inB (.tup [.int lo, .int hi]) (.tup [.int n, .int m]) = (!decide (n * 1 < lo * m) && !decide (hi * m < n * 1)) := rfl
  rw [e] at q
  refine ⟨fun e1 => ?_, fun e1 => ?_⟩
  · walk_at "do"
    refine wp_callD ?_
    walk_at "do"
    refine wp_callD ?_
    walk_at "do"
    refine fw _ _ ?_
    walk_at "do"
    refine f_less (pw9 (by omega)) (pw9 (by omega)) s1 s2 ?_
    walk_at "do"
    rw [e1, Bool.not_false, Bool.true_and] at q
    exact q
  · walk_at "do"
    rw [e1, Bool.not_true, Bool.false_and] at q
    rw [e1]
    exact q
end FL
namespace FL
open PySem PySem.Spec L2
local macro_rules | `(tactic| walk_at "go") => `(tactic| with_reducible first
  | refine wp_seq ?_ | refine wp_sIf ?_ | refine wp_ret ?_ | refine wp_set ?_ | refine wp_asg ?_ | refine wp_setL ?_ | refine wp_retL ?_ | refine wp_expr ?_
  | refine wp_2 ?_ | refine wp_1 ?_ | refine wp_C ?_ | refine wp_xB ?_ | refine wp_cons ?_ | refine wp_P ?_ | refine wp_xT ?_ | refine wp_tru ?_ | refine wp_tup ?_ | refine wp_lst ?_ | refine wp_fz ?_ | refine wp_oInt ?_ | refine wp_cut ?_
  | refine wp_and ?_ | refine wp_or ?_ | refine wp_not ?_ | refine wp_tAnd ?_ | refine wp_tOr ?_ | refine wp_tNot ?_ | refine wp_xIf ?_ | refine wp_chain ?_ | refine wp_par2 ?_ | refine wp_par3 ?_ | refine wp_parN ?_ | refine wp_pVal ?_ | refine wp_pNew ?_
  | refine wp_lB ?_ | refine wp_iOf ?_ | refine wp_iRow ?_ | refine wp_for ?_ | refine wp_forc ?_ | refine wp_forn ?_ | refine wp_gsCons ?_ | refine wp_gsNil ?_ | refine wp_its0 ?_ | refine wp_aVal ?_
  | refine fl_nx ?_ | refine fl_rt ?_ | refine fl_rtL ?_ | refine fl_co ?_ | refine fl_br ?_ | refine br_t ?_ | refine br_f ?_ | refine br_t' ?_ | refine br_f' ?_ | refine br_n ?_ | refine br_n' ?_ | refine en_rt ?_ | refine en_rtL ?_ | refine in_nx ?_ | refine in_co ?_ | refine it_nx ?_ | refine it_co ?_ | refine it_rt ?_ | refine it_br ?_ | refine ex_bl ?_ | refine ex_int ?_)
local macro_rules | `(tactic| walk_at "sd") => `(tactic| first
  | ((with_reducible refine' wp_var ?e ?_); case e => rfl)
  | ((with_reducible refine' wp_gsTup ?e ?_); case e => rfl)
  | ((with_reducible refine' wp_setv ?e ?_); (case e => exact Nat.le_of_ble_eq_true rfl); try dsimp only [List.set])
  | ((with_reducible refine' wp_itsV ?e ?_); (case e => exact Nat.le_of_ble_eq_true rfl); try dsimp only [List.set])
  | ((with_reducible refine' wp_itsN ?e ?_); (case e => exact Nat.le_of_ble_eq_true rfl); try dsimp only [List.set])
  | ((with_reducible refine' wp_lend' ?e ?_); case e => rfl)
  | ((with_reducible refine' wp_gsSub ?h ?c); case c => exact ⟨_, _, rfl⟩)
  | ((with_reducible refine' wp_late ?e ?_); case e => exact ⟨_, _, rfl⟩))
local macro_rules | `(tactic| walk_at "ex") => `(tactic| first
  | ((with_reducible refine' ex_sub ?e ?f ?_); (case e => rfl); (case f => rfl); try dsimp only [List.set])
  | ((with_reducible refine' ex_sb ?e ?_); case e => rfl)
  | ((with_reducible refine' ex_so ?e ?_); case e => rfl)
  | ((with_reducible refine' ex_p2 ?e ?f ?_); (case e => exact Nat.le_of_ble_eq_true rfl); (case f => exact Nat.le_of_ble_eq_true rfl); try dsimp only [List.set])
  | ((with_reducible refine' ex_p3 ?e ?f ?g ?_); (case e => exact Nat.le_of_ble_eq_true rfl); (case f => exact Nat.le_of_ble_eq_true rfl); (case g => exact Nat.le_of_ble_eq_true rfl); try dsimp only [List.set])
  | ((with_reducible refine' And.intro ?e ?_); (case e => rfl))
  | ((with_reducible refine' And.intro ?e ?_); (case e => exact Nat.le_of_ble_eq_true rfl); try dsimp only [List.set]))
local macro_rules | `(tactic| walk_at "op") => `(tactic| first
  | (with_reducible refine' wp_O (eq_int _ _) ?_)
  | (with_reducible refine' wp_O (ne_int _ _) ?_)
  | (with_reducible refine' wp_O (eq_bl _ _) ?_)
  | ((with_reducible refine' wp_O (mul_ok (small _ ?e) (small _ ?f)) ?_); (case e => omega); (case f => omega))
  | ((with_reducible refine' wp_O (mod_ok ?e) ?_); case e => omega)
  | ((with_reducible refine' wp_O (div_ok ?e (small _ ?f)) ?_); (case e => omega); case f => omega)
  | ((with_reducible refine' wp_O (dm_ok ?e ?f) ?_); (case e => omega); case f => omega)
  | ((with_reducible refine' wp_O ?e ?_); case e => rfl))
local macro_rules | `(tactic| walk_at "to") => `(tactic| repeat (first | walk_at "go" | walk_at "sd" | walk_at "ex"))
local macro_rules | `(tactic| walk_at "do") => `(tactic| repeat (first | walk_at "go" | walk_at "sd" | walk_at "op" | walk_at "ex"))
def allIn (bs rs : List D) : Bool := (List.range rs.length).all fun i => inB (bs.getD i .non) (rs.getD i .non)
def woP (bs : List D) : D → Bool
  | .tup [.int i, e] => !inB (bs.getD i.toNat .non) e
  | _ => false
theorem wo_row (bs rs : List D) : (allIn bs rs = true → ((enumD rs).filter (woP bs)).map fwF = []) ∧ (allIn bs rs = false → ∃ i l, ((enumD rs).filter (woP bs)).map fwF = .int i :: l) := by
  have hm : ∀ e ∈ enumD rs, ∃ i : Nat, i < rs.length ∧ e = .tup [.int i, rs.getD i .non] := fun e he => by
    obtain ⟨i, hi, rfl⟩ := List.mem_map.mp he
    exact ⟨i, List.mem_range.mp hi, rfl⟩
  constructor
  · intro h
    rw [List.filter_eq_nil_iff.mpr (fun e he => ?_)]
    · rfl
    · obtain ⟨i, hi, rfl⟩ := hm e he
      show ¬ (!inB (bs.getD ((i : Int).toNat) .non) (rs.getD i .non)) = true
      rw [Int.toNat_natCast, List.all_eq_true.mp h i (List.mem_range.mpr hi)]
      decide
  · intro h
    obtain ⟨i, hi, hp⟩ : ∃ i, i < rs.length ∧ inB (bs.getD i .non) (rs.getD i .non) = false := by
      by_cases c : ∃ i, i < rs.length ∧ inB (bs.getD i .non) (rs.getD i .non) = false
      · exact c
      · exfalso
        have : allIn bs rs = true := List.all_eq_true.mpr fun i hi => by
          cases q : inB (bs.getD i .non) (rs.getD i .non) with
          | true => rfl
          | false => exact (c ⟨i, List.mem_range.mp hi, q⟩).elim
        rw [this] at h
        cases h
    have hin : (D.tup [.int (i : Nat), rs.getD i .non]) ∈ (enumD rs).filter (woP bs) := by
      refine List.mem_filter.mpr ⟨List.mem_map.mpr ⟨i, List.mem_range.mpr hi, rfl⟩, ?_⟩
      show (!inB (bs.getD ((i : Int).toNat) .non) (rs.getD i .non)) = true
      rw [Int.toNat_natCast, hp]; rfl
    match q : (enumD rs).filter (woP bs) with
    | [] => rw [q] at hin; cases hin
    | y :: l =>
      have hy : y ∈ enumD rs := (List.mem_filter.mp (by rw [q]; exact List.mem_cons_self ..)).1
      obtain ⟨j, _, rfl⟩ := hm y hy
      exact ⟨j, l.map fwF, rfl⟩
theorem f_fwo {bs rs : List D} (hl : rs.length = bs.length) (h9 : rs.length ≤ 9) (hp : ∀ p ∈ bs, pairB p = true) (hs : ∀ h ∈ rs, SmD h) {Q : D → List Ent → Prop} (q1 : allIn bs rs = true → Q (.lst []) []) (q2 : allIn bs rs = false → ∀ z, (∃ i, z = .int i) → Q (.lst [z]) []) :
    WpF F_first_without (valsOf [.tup bs, .tup rs]) Q := by
  refine wp_def ?_
  unfold B_first_without
  show Wp _ [.val (.tup bs), .val (.tup rs), .no, .no] _
  walk_at "do"
  refine wp_comp (woP bs) fwF ?_
  walk_at "do"
  have hl2 : (enumD rs).length ≤ most := by unfold enumD; rw [List.length_map, List.length_range]; show rs.length ≤ 100000; omega
  refine ⟨hl2, fun e he => ?_, ?_⟩
  · obtain ⟨i, hi, rfl⟩ := List.mem_map.mp he
    have hi := List.mem_range.mp hi
    have hi2 : i < bs.length := by omega
    have gb : bs.getD i .non = bs[i] := getD_at hi2
    have gr : rs.getD i .non = rs[i] := getD_at hi
    walk_at "do"
    refine wp_callD ?_
    walk_at "do"
    refine wp_O (ix_nat (i := (i : Int)) (by omega) (by rw [Int.toNat_natCast, List.getElem?_eq_getElem hi2])) ?_
    walk_at "do"
    refine f_hw (hp _ (List.getElem_mem hi2)) (by rw [gr]; exact hs _ (List.getElem_mem hi)) ?_
    walk_at "do"
    refine ⟨?_, fun e => ?_, fun e => rfl⟩
    · show _ = !inB (bs.getD ((i : Int).toNat) .non) (rs.getD i .non)
      rw [Int.toNat_natCast, gb]
    · walk_at "do"
      rfl
  · walk_at "do"
    have hh := wo_row bs rs
    cases c : allIn bs rs with
    | true =>
      rw [hh.1 c, cut0]
      exact q1 c
    | false =>
      obtain ⟨i, l, e⟩ := hh.2 c
      rw [e, cut1]
      exact q2 c _ ⟨i, rfl⟩
theorem f_within {bs rs : List D} (h1 : ty3 (.tup bs)) (hb : boundsB (.tup bs) = true) (h2 : ty3 (.tup rs)) (hr : runB (.tup rs) = true) (hl : rs.length = bs.length) (hs : ∀ h ∈ rs, SmD h) {Q : D → List Ent → Prop} (q : Q (.bl (allIn bs rs)) []) : WpF F_is_within (valsOf [.tup bs, .tup rs]) Q := by
  have hb' : rightB (.tup bs) = true := (Bool.and_eq_true_iff.mp hb).1
  simp only [rightB, Bool.and_eq_true, decide_eq_true_eq] at hb'
  refine wp_def ?_
  unfold B_is_within
  show Wp _ [.val (.tup bs), .val (.tup rs)] _
  walk_at "do"
  refine wp_callD ?_
  walk_at "do"
  refine f_crunof h1 hb h2 hr hl ?_
  walk_at "do"
  refine wp_callD ?_
  walk_at "do"
  refine f_fwo hl (by omega) (fun p hp => List.all_eq_true.mp hb'.2 p hp) hs (fun e => ?_) fun e z hz => ?_
  · walk_at "to"
    refine wp_O (a := D.bl true) rfl ?_
    walk_at "do"
    rw [e] at q
    exact q
  · walk_at "to"
    have : eqD (.lst [z]) (.lst []) = some (.bl false) := by
      obtain ⟨i, rfl⟩ := hz
      rfl
    refine wp_O this ?_
    walk_at "do"
    rw [e] at q
    exact q
theorem rg_cons {lo : Int} {n : Nat} : rgD lo (n + 1) = .int lo :: rgD (lo + 1) n := by
  unfold rgD
  rw [List.range_succ_eq_map, List.map_cons, List.map_map]
  congr 1
  · show D.int (lo + ((0 : Nat) : Int)) = _
    rw [Int.natCast_zero, Int.add_zero]
  · apply List.map_congr_left
    intro i _
    show D.int (lo + ((i + 1 : Nat) : Int)) = .int (lo + 1 + (i : Int))
    congr 1
    omega
theorem range1_ok {z : Int} (h : -1000000 ≤ z ∧ z ≤ 1000000) : range1 [.int z] = some (rgD 0 z.toNat) := by
  unfold range1
  simp only
  rw [if_pos (show rgOk z = true from decide_eq_true h)]
theorem f_outside {bs rs : List D} (hl : rs.length = bs.length) (h9 : rs.length ≤ 9) (hp : ∀ p ∈ bs, pairB p = true) (hs : ∀ h ∈ rs, SmD h) {Q : D → List Ent → Prop} (q1 : allIn bs rs = true → Q .non []) (q2 : allIn bs rs = false → ∀ i, Q (.int i) []) : WpF F__law_outside (valsOf [.tup bs, .tup rs]) Q := by
  refine wp_def ?_
  unfold B__law_outside
  show Wp _ [.val (.tup bs), .val (.tup rs), .no] _
  walk_at "do"
  refine wp_O (range1_ok ⟨by omega, by omega⟩) ?_
  rw [Int.toNat_natCast]
  refine wp_forD (fun rest r => ∃ k e, k ≤ rs.length ∧ rest = rgD k (rs.length - k) ∧ (∀ i, i < k → inB (bs.getD i .non) (rs.getD i .non) = true) ∧ r = [.val (.tup bs), .val (.tup rs), e]) ?_ ?_ _ _ ⟨0, .no, Nat.zero_le _, rfl, fun i hi => absurd hi (Nat.not_lt_zero _), rfl⟩
  · rintro d rest r ⟨k, e, hk, hrest, hin, rfl⟩
    have hk2 : k < rs.length := by
      apply Nat.lt_of_le_of_ne hk
      intro z
      rw [z, Nat.sub_self] at hrest
      cases hrest
    rw [show rs.length - k = (rs.length - (k + 1)) + 1 by omega, rg_cons] at hrest
    injection hrest with h1 h2
    subst h1
    have hi2 : k < bs.length := by omega
    have gb : bs.getD k .non = bs[k] := getD_at hi2
    have gr : rs.getD k .non = rs[k] := getD_at hk2
    obtain ⟨lo, hi, eb, b1, b2, b3⟩ := pairB_of (hp _ (List.getElem_mem hi2))
    obtain ⟨n, m, er, s1, s2⟩ := hs _ (List.getElem_mem hk2)
    have ib : ixD (.tup bs) (.int (k : Int)) = some (.tup [.int lo, .int hi]) := ix_nat (i := (k : Int)) (by omega) (by rw [Int.toNat_natCast, List.getElem?_eq_getElem hi2, eb])
    have ir : ixD (.tup rs) (.int (k : Int)) = some (.tup [.int n, .int m]) := ix_nat (i := (k : Int)) (by omega) (by rw [Int.toNat_natCast, List.getElem?_eq_getElem hk2, er])
    have ei : inB (bs.getD k .non) (rs.getD k .non) = (!decide (n * 1 < lo * m) && !decide (hi * m < n * 1)) := by rw [gb, gr, eb, er]; rfl
    have no : inB (bs.getD k .non) (rs.getD k .non) = false → allIn bs rs = false := fun z => by
      cases c : allIn bs rs with
      | false => rfl
      | true =>
        have := List.all_eq_true.mp c k (List.mem_range.mpr hk2)
        rw [z] at this
        cases this
    walk_at "do"
    refine wp_callD ?_
    walk_at "do"
    refine wp_O ir ?_
    walk_at "do"
    refine wp_O ib ?_
    walk_at "do"
    refine f_lless s1 s2 (pw9 (by omega)) (pw9 (by omega)) ?_
    walk_at "do"
    refine br_d' (fun g => ?_) (fun g => ?_)
    · walk_at "do"
      refine wp_callD ?_
      walk_at "do"
      refine wp_O ib ?_
      walk_at "do"
      refine wp_O ir ?_
      walk_at "do"
      refine f_lless (pw9 (by omega)) (pw9 (by omega)) s1 s2 ?_
      walk_at "do"
      refine br_d (fun g2 => ?_) (fun g2 => ?_)
      · walk_at "do"
        refine q2 (no ?_) _
        rw [ei, decide_eq_true g2, Bool.not_true, Bool.and_false]
      · walk_at "do"
        refine ⟨k + 1, _, by omega, ?_, fun i hi' => ?_, rfl⟩
        · rw [h2]
          rfl
        · by_cases c : i = k
          · rw [c, ei, decide_eq_false g, decide_eq_false g2]; rfl
          · exact hin i (by omega)
    · walk_at "do"
      refine q2 (no ?_) _
      rw [ei, decide_eq_true g, Bool.not_true, Bool.false_and]
  · rintro r ⟨k, e, hk, hrest, hin, rfl⟩
    have hk2 : k = rs.length := by
      apply Classical.byContradiction
      intro z
      rw [show rs.length - k = (rs.length - (k + 1)) + 1 by omega, rg_cons] at hrest
      cases hrest
    walk_at "do"
    refine q1 (List.all_eq_true.mpr fun i hi => hin i ?_)
    rw [hk2]
    exact List.mem_range.mp hi
end FL
namespace FL
open PySem PySem.Spec L2
local macro_rules | `(tactic| walk_at "go") => `(tactic| with_reducible first
  | refine wp_seq ?_ | refine wp_sIf ?_ | refine wp_ret ?_ | refine wp_set ?_ | refine wp_asg ?_ | refine wp_setL ?_ | refine wp_retL ?_ | refine wp_expr ?_
  | refine wp_2 ?_ | refine wp_1 ?_ | refine wp_C ?_ | refine wp_xB ?_ | refine wp_cons ?_ | refine wp_P ?_ | refine wp_xT ?_ | refine wp_tru ?_ | refine wp_tup ?_ | refine wp_lst ?_ | refine wp_fz ?_ | refine wp_oInt ?_ | refine wp_cut ?_
  | refine wp_and ?_ | refine wp_or ?_ | refine wp_not ?_ | refine wp_tAnd ?_ | refine wp_tOr ?_ | refine wp_tNot ?_ | refine wp_xIf ?_ | refine wp_chain ?_ | refine wp_par2 ?_ | refine wp_par3 ?_ | refine wp_parN ?_ | refine wp_pVal ?_ | refine wp_pNew ?_
  | refine wp_lB ?_ | refine wp_iOf ?_ | refine wp_iRow ?_ | refine wp_for ?_ | refine wp_forc ?_ | refine wp_forn ?_ | refine wp_gsCons ?_ | refine wp_gsNil ?_ | refine wp_its0 ?_ | refine wp_aVal ?_
  | refine fl_nx ?_ | refine fl_rt ?_ | refine fl_rtL ?_ | refine fl_co ?_ | refine fl_br ?_ | refine br_t ?_ | refine br_f ?_ | refine br_t' ?_ | refine br_f' ?_ | refine br_n ?_ | refine br_n' ?_ | refine en_rt ?_ | refine en_rtL ?_ | refine in_nx ?_ | refine in_co ?_ | refine it_nx ?_ | refine it_co ?_ | refine it_rt ?_ | refine it_br ?_ | refine ex_bl ?_ | refine ex_int ?_)
local macro_rules | `(tactic| walk_at "sd") => `(tactic| first
  | ((with_reducible refine' wp_var ?e ?_); case e => rfl)
  | ((with_reducible refine' wp_gsTup ?e ?_); case e => rfl)
  | ((with_reducible refine' wp_setv ?e ?_); (case e => exact Nat.le_of_ble_eq_true rfl); try dsimp only [List.set])
  | ((with_reducible refine' wp_itsV ?e ?_); (case e => exact Nat.le_of_ble_eq_true rfl); try dsimp only [List.set])
  | ((with_reducible refine' wp_itsN ?e ?_); (case e => exact Nat.le_of_ble_eq_true rfl); try dsimp only [List.set])
  | ((with_reducible refine' wp_lend' ?e ?_); case e => rfl)
  | ((with_reducible refine' wp_gsSub ?h ?c); case c => exact ⟨_, _, rfl⟩)
  | ((with_reducible refine' wp_late ?e ?_); case e => exact ⟨_, _, rfl⟩))
local macro_rules | `(tactic| walk_at "ex") => `(tactic| first
  | ((with_reducible refine' ex_sub ?e ?f ?_); (case e => rfl); (case f => rfl); try dsimp only [List.set])
  | ((with_reducible refine' ex_sb ?e ?_); case e => rfl)
  | ((with_reducible refine' ex_so ?e ?_); case e => rfl)
  | ((with_reducible refine' ex_p2 ?e ?f ?_); (case e => exact Nat.le_of_ble_eq_true rfl); (case f => exact Nat.le_of_ble_eq_true rfl); try dsimp only [List.set])
  | ((with_reducible refine' ex_p3 ?e ?f ?g ?_); (case e => exact Nat.le_of_ble_eq_true rfl); (case f => exact Nat.le_of_ble_eq_true rfl); (case g => exact Nat.le_of_ble_eq_true rfl); try dsimp only [List.set])
  | ((with_reducible refine' And.intro ?e ?_); (case e => rfl))
  | ((with_reducible refine' And.intro ?e ?_); (case e => exact Nat.le_of_ble_eq_true rfl); try dsimp only [List.set]))
local macro_rules | `(tactic| walk_at "op") => `(tactic| first
  | (with_reducible refine' wp_O (eq_int _ _) ?_)
  | (with_reducible refine' wp_O (ne_int _ _) ?_)
  | (with_reducible refine' wp_O (eq_bl _ _) ?_)
  | ((with_reducible refine' wp_O (mul_ok (small _ ?e) (small _ ?f)) ?_); (case e => omega); (case f => omega))
  | ((with_reducible refine' wp_O (mod_ok ?e) ?_); case e => omega)
  | ((with_reducible refine' wp_O (div_ok ?e (small _ ?f)) ?_); (case e => omega); case f => omega)
  | ((with_reducible refine' wp_O (dm_ok ?e ?f) ?_); (case e => omega); case f => omega)
  | ((with_reducible refine' wp_O ?e ?_); case e => rfl))
local macro_rules | `(tactic| walk_at "to") => `(tactic| repeat (first | walk_at "go" | walk_at "sd" | walk_at "ex"))
local macro_rules | `(tactic| walk_at "do") => `(tactic| repeat (first | walk_at "go" | walk_at "sd" | walk_at "op" | walk_at "ex"))
theorem well_up {j k : Int} {es : List D} : Well j es → j ≤ k → Well k es := fun ⟨a, s, c, h1, h2⟩ h => ⟨a, s, c, h1, by omega⟩
/-- a run's heights: fractions, small -/
def Runs (rs : List D) : Prop := ∀ h ∈ rs, ∃ q, h = fr q ∧ Sm 20 q
/-- within -/
def Ins (bs rs : List D) : Prop := rs.length = bs.length ∧ ∀ (i : Nat) (lo hi : Int), bs[i]? = some (.tup [.int lo, .int hi]) → ∃ q, rs[i]? = some (fr q) ∧ Sm 20 q ∧ Btw lo hi q
theorem noLsts_frs : ∀ {ds : List D}, (∀ p ∈ ds, ∃ q, p = fr q) → noLsts ds = true
  | [], _ => rfl
  | d :: ds, h => by
    obtain ⟨q, e⟩ := h d (List.mem_cons_self ..)
    show (noLst d && noLsts ds) = true
    rw [e, noLsts_frs fun p hp => h p (List.mem_cons_of_mem _ hp)]
    rfl
theorem f_runin {K : Int} {ds bs : List D} (hw : Well K ds) (hK : K ≤ 999999000) (h9 : bs.length ≤ 9) (hp : ∀ p ∈ bs, pairB p = true) {Q : D → List Ent → Prop} (q : ∀ es rs, Ins bs rs → Well (K + 30) es → Q (.tup rs) [.cel .io es]) : WpF F__law_run_in (ioArgs [] ds [.tup bs]) Q := by
  refine wp_defI ?_
  unfold B__law_run_in
  show Wp _ [.cel .io ds, .val (.tup bs), .no, .no, .no, .no, .no, .no] _
  walk_at "do"
  refine wp_tk rfl (by decide) hw (by omega) ?_
  walk_at "do"
  refine ⟨by omega, by omega, fun t es t0 t1 hw => ?_⟩
  dsimp only [List.set]
  obtain ⟨parts, e1, p0, p1⟩ : ∃ h, ixD (.tup [.int 1, .int 2, .int 3, .int 7]) (.int t) = some (.int h) ∧ 1 ≤ h ∧ h ≤ 7 := by
    rcases (by omega : t = 0 ∨ t = 1 ∨ t = 2 ∨ t = 3) with rfl | rfl | rfl | rfl
    · exact ⟨_, rfl, by decide, by decide⟩
    · exact ⟨_, rfl, by decide, by decide⟩
    · exact ⟨_, rfl, by decide, by decide⟩
    · exact ⟨_, rfl, by decide, by decide⟩
  refine wp_O e1 ?_
  walk_at "do"
  refine wp_tk rfl (by decide) hw (by omega) ?_
  walk_at "do"
  refine ⟨by omega, by omega, fun kind es k0 k1 hw => ?_⟩
  dsimp only [List.set]
  walk_at "do"
  refine wp_forN (fun rest r => ∃ (done es found : List D) (e5 e6 e7 : Ent), bs = done ++ rest ∧ r = [.cel .io es, .val (.tup bs), .val (.int parts), .cel .own found, .val (.int kind), e5, e6, e7] ∧ Well (K + 4 + 2 * (done.length : Int)) es ∧ Ins done found) ?_ _ _ ⟨[], es, [], _, _, _, rfl, rfl, well_up hw (by simp only [List.length_nil]; omega), rfl, fun i lo hi h => by simp at h⟩ ?_
  · rintro d rest r ⟨done, es, found, e5, e6, e7, hbs, rfl, hw, hin⟩
    have hdl : done.length + 1 ≤ bs.length := by rw [hbs, List.length_append, List.length_cons]; omega
    obtain ⟨lo, hi, rfl, b1, b2, b3⟩ := pairB_of (hp d (by rw [hbs]; exact List.mem_append_right _ (List.mem_cons_self ..)))
    walk_at "do"
    have tail : ∀ (at' : Int) (es : List D), 0 ≤ at' → at' ≤ parts → Well (K + 4 + 2 * (done.length : Int) + 2) es → Wp (sApp 3 (callD 2 F__law_part (dCons (x2 addD (x2 mulD (xVar 5) (xVar 2)) (x2 mulD (x2 subD (xVar 6) (xVar 5)) (xVar 7))) (dCons (xVar 2) (mP [])))))
        [.cel .io es, .val (.tup bs), .val (.int parts), .cel .own found, .val (.int kind), .val (.int lo), .val (.int hi), .val (.int at')] fun fl r => (fl = .nx ∨ fl = .co) ∧ ∃ (done es found : List D) (e5 e6 e7 : Ent), bs = done ++ rest ∧ r = [.cel .io es, .val (.tup bs), .val (.int parts), .cel .own found, .val (.int kind), e5, e6, e7] ∧ Well (K + 4 + 2 * (done.length : Int)) es ∧ Ins done found := by
      intro at' es a0 a1 hw
      refine wp_app ⟨_, _, rfl⟩ ?_
      walk_at "do"
      refine wp_callD ?_
      walk_at "do"
      have m1 : 0 ≤ (hi - lo) * at' := Int.mul_nonneg (by omega) a0
      have m2 : (hi - lo) * at' ≤ (hi - lo) * parts := Int.mul_le_mul_of_nonneg_left a1 (by omega)
      have m3 : (hi - lo) * parts ≤ 19998 * parts := Int.mul_le_mul_of_nonneg_right (by omega) (by omega)
      have m4 : lo * parts ≤ 9999 * parts := Int.mul_le_mul_of_nonneg_right (by omega) (by omega)
      have m5 : -9999 * parts ≤ lo * parts := Int.mul_le_mul_of_nonneg_right (by omega) (by omega)
      have m6 : (hi - lo) * parts = hi * parts - lo * parts := Int.sub_mul ..
      refine f_part (by omega) (Nat.lt_of_lt_of_le (show parts.natAbs < 2 ^ 64 by omega) (pow_le _ _ (by decide))) ?_
      refine ⟨.own, found, rfl, by show found.length < 100000; have := hin.1; omega, ?_⟩
      refine ⟨.inl rfl, done ++ [.tup [.int lo, .int hi]], es, _, _, _, _, by rw [hbs, List.append_assoc]; rfl, rfl, well_up hw (by rw [List.length_append, List.length_singleton]; omega), ?_, fun i lo' hi' h => ?_⟩
      · rw [List.length_append, List.length_append, hin.1]; rfl
      · by_cases c : i < done.length
        · rw [List.getElem?_append_left c] at h
          rw [List.getElem?_append_left (by rw [hin.1]; exact c)]
          exact hin.2 i lo' hi' h
        · have hi0 : i = done.length := by
            have := (List.getElem?_eq_some_iff.mp h).1
            rw [List.length_append, List.length_singleton] at this
            omega
          subst hi0
          rw [List.getElem?_append_right (Nat.le_refl _), Nat.sub_self] at h
          cases h
          rw [List.getElem?_append_right (by rw [hin.1]; exact Nat.le_refl _), hin.1, Nat.sub_self]
          refine ⟨_, rfl, ?_, ?_⟩
          · exact sm_div (by omega) (by omega) (by omega)
          · exact btw_div (by omega) (by omega) (by omega)
    refine br_d (fun g => ?_) (fun g => ?_)
    · walk_at "do"
      refine wp_tk rfl (by decide) hw (by omega) ?_
      walk_at "do"
      refine ⟨by omega, by omega, fun t es t0 t1 hw => ?_⟩
      dsimp only [List.set]
      walk_at "do"
      exact tail t es t0 (by omega) hw
    · walk_at "do"
      refine wp_tk rfl (by decide) hw (by omega) ?_
      walk_at "do"
      refine ⟨by omega, by omega, fun t es t0 t1 hw => ?_⟩
      dsimp only [List.set]
      obtain ⟨a, e2, a0, a1⟩ : ∃ h, ixD (.tup [.int 0, .int parts]) (.int t) = some (.int h) ∧ 0 ≤ h ∧ h ≤ parts := by
        rcases (by omega : t = 0 ∨ t = 1) with rfl | rfl
        · exact ⟨_, rfl, by omega, by omega⟩
        · exact ⟨_, rfl, by omega, by omega⟩
      refine wp_O e2 ?_
      walk_at "do"
      exact tail a es a0 a1 hw
  · rintro r ⟨done, es, found, e5, e6, e7, hbs, rfl, hw, hin⟩
    rw [List.append_nil] at hbs
    subst hbs
    have hfr : ∀ p ∈ found, ∃ q, p = fr q := fun p hp' => by
      obtain ⟨i, hi, e⟩ := List.mem_iff_getElem.mp hp'
      have hi' : i < bs.length := by rw [← hin.1]; exact hi
      obtain ⟨lo, hi2, eb, _⟩ := pairB_of (hp _ (List.getElem_mem hi'))
      obtain ⟨q, e2, _⟩ := hin.2 i lo hi2 (by rw [List.getElem?_eq_getElem hi', eb])
      rw [List.getElem?_eq_getElem hi, e] at e2
      exact ⟨q, Option.some.inj e2⟩
    walk_at "do"
    refine ⟨?_, ?_⟩
    · show (noLsts found && true) = true
      rw [noLsts_frs hfr]
      rfl
    · refine en_rtI rfl ?_
      exact q _ _ hin (well_up hw (by omega))
end FL
namespace FL
open PySem PySem.Spec L2
local macro_rules | `(tactic| walk_at "go") => `(tactic| with_reducible first
  | refine wp_seq ?_ | refine wp_sIf ?_ | refine wp_ret ?_ | refine wp_set ?_ | refine wp_asg ?_ | refine wp_setL ?_ | refine wp_retL ?_ | refine wp_expr ?_
  | refine wp_2 ?_ | refine wp_1 ?_ | refine wp_C ?_ | refine wp_xB ?_ | refine wp_cons ?_ | refine wp_P ?_ | refine wp_xT ?_ | refine wp_tru ?_ | refine wp_tup ?_ | refine wp_lst ?_ | refine wp_fz ?_ | refine wp_oInt ?_ | refine wp_cut ?_
  | refine wp_and ?_ | refine wp_or ?_ | refine wp_not ?_ | refine wp_tAnd ?_ | refine wp_tOr ?_ | refine wp_tNot ?_ | refine wp_xIf ?_ | refine wp_chain ?_ | refine wp_par2 ?_ | refine wp_par3 ?_ | refine wp_parN ?_ | refine wp_pVal ?_ | refine wp_pNew ?_
  | refine wp_lB ?_ | refine wp_iOf ?_ | refine wp_iRow ?_ | refine wp_for ?_ | refine wp_forc ?_ | refine wp_forn ?_ | refine wp_gsCons ?_ | refine wp_gsNil ?_ | refine wp_its0 ?_ | refine wp_aVal ?_
  | refine fl_nx ?_ | refine fl_rt ?_ | refine fl_rtL ?_ | refine fl_co ?_ | refine fl_br ?_ | refine br_t ?_ | refine br_f ?_ | refine br_t' ?_ | refine br_f' ?_ | refine br_n ?_ | refine br_n' ?_ | refine en_rt ?_ | refine en_rtL ?_ | refine in_nx ?_ | refine in_co ?_ | refine it_nx ?_ | refine it_co ?_ | refine it_rt ?_ | refine it_br ?_ | refine ex_bl ?_ | refine ex_int ?_)
local macro_rules | `(tactic| walk_at "sd") => `(tactic| first
  | ((with_reducible refine' wp_var ?e ?_); case e => rfl)
  | ((with_reducible refine' wp_gsTup ?e ?_); case e => rfl)
  | ((with_reducible refine' wp_setv ?e ?_); (case e => exact Nat.le_of_ble_eq_true rfl); try dsimp only [List.set])
  | ((with_reducible refine' wp_itsV ?e ?_); (case e => exact Nat.le_of_ble_eq_true rfl); try dsimp only [List.set])
  | ((with_reducible refine' wp_itsN ?e ?_); (case e => exact Nat.le_of_ble_eq_true rfl); try dsimp only [List.set])
  | ((with_reducible refine' wp_lend' ?e ?_); case e => rfl)
  | ((with_reducible refine' wp_gsSub ?h ?c); case c => exact ⟨_, _, rfl⟩)
  | ((with_reducible refine' wp_late ?e ?_); case e => exact ⟨_, _, rfl⟩))
local macro_rules | `(tactic| walk_at "ex") => `(tactic| first
  | ((with_reducible refine' ex_sub ?e ?f ?_); (case e => rfl); (case f => rfl); try dsimp only [List.set])
  | ((with_reducible refine' ex_sb ?e ?_); case e => rfl)
  | ((with_reducible refine' ex_so ?e ?_); case e => rfl)
  | ((with_reducible refine' ex_p2 ?e ?f ?_); (case e => exact Nat.le_of_ble_eq_true rfl); (case f => exact Nat.le_of_ble_eq_true rfl); try dsimp only [List.set])
  | ((with_reducible refine' ex_p3 ?e ?f ?g ?_); (case e => exact Nat.le_of_ble_eq_true rfl); (case f => exact Nat.le_of_ble_eq_true rfl); (case g => exact Nat.le_of_ble_eq_true rfl); try dsimp only [List.set])
  | ((with_reducible refine' And.intro ?e ?_); (case e => rfl))
  | ((with_reducible refine' And.intro ?e ?_); (case e => exact Nat.le_of_ble_eq_true rfl); try dsimp only [List.set]))
local macro_rules | `(tactic| walk_at "op") => `(tactic| first
  | (with_reducible refine' wp_O (eq_int _ _) ?_)
  | (with_reducible refine' wp_O (ne_int _ _) ?_)
  | (with_reducible refine' wp_O (eq_bl _ _) ?_)
  | ((with_reducible refine' wp_O (mul_ok (small _ ?e) (small _ ?f)) ?_); (case e => omega); (case f => omega))
  | ((with_reducible refine' wp_O (mod_ok ?e) ?_); case e => omega)
  | ((with_reducible refine' wp_O (div_ok ?e (small _ ?f)) ?_); (case e => omega); case f => omega)
  | ((with_reducible refine' wp_O (dm_ok ?e ?f) ?_); (case e => omega); case f => omega)
  | ((with_reducible refine' wp_O ?e ?_); case e => rfl))
local macro_rules | `(tactic| walk_at "to") => `(tactic| repeat (first | walk_at "go" | walk_at "sd" | walk_at "ex"))
local macro_rules | `(tactic| walk_at "do") => `(tactic| repeat (first | walk_at "go" | walk_at "sd" | walk_at "op" | walk_at "ex"))
theorem f_anyrun {K : Int} {n : Nat} {ds : List D} (hw : Well K ds) (hK : K ≤ 999999000) (n9 : n ≤ 9) {Q : D → List Ent → Prop} (q : ∀ es rs, rs.length = n → Runs rs → Well (K + 40) es → Q (.tup rs) [.cel .io es]) : WpF F__law_any_run (ioArgs [] ds [.int n]) Q := by
  refine wp_defI ?_
  unfold B__law_any_run
  show Wp _ [.cel .io ds, .val (.int n), .no] _
  walk_at "do"
  refine wp_compJ (fun rest acc r => ∃ es, r = [.cel .io es, .val (.int n), .no] ∧ acc.length + rest.length = n ∧ Runs acc ∧ Well (K + 4 * (acc.length : Int)) es) ?_
  walk_at "to"
  refine wp_O (range1_ok ⟨by omega, by omega⟩) ?_
  rw [Int.toNat_natCast]
  have hrl : (rgD 0 n).length = n := by unfold rgD; rw [List.length_map, List.length_range]
  refine ⟨rfl, by rw [hrl]; show n ≤ 100000; omega, ⟨ds, rfl, by rw [hrl]; simp, fun h hh => (nomatch hh), well_up hw (by simp only [List.length_nil]; omega)⟩, ?_, ?_⟩
  · rintro d rest acc r ⟨es, rfl, hl, hr, hw⟩
    rw [List.length_cons] at hl
    walk_at "do"
    refine wp_callD ?_
    walk_at "do"
    refine wp_tk rfl (by decide) hw (by omega) ?_
    walk_at "do"
    refine ⟨by omega, by omega, fun t es t0 t1 hw => ?_⟩
    dsimp only [List.set]
    walk_at "do"
    refine wp_tk rfl (by decide) hw (by omega) ?_
    walk_at "do"
    refine ⟨by omega, by omega, fun u es u0 u1 hw => ?_⟩
    dsimp only [List.set]
    walk_at "do"
    refine f_part (by omega) (Nat.lt_of_lt_of_le (show (1 + u).natAbs < 2 ^ 64 by omega) (pow_le _ _ (by decide))) ?_
    refine ⟨es, rfl, by rw [List.length_append, List.length_singleton]; omega, fun h hh => ?_, well_up hw (by rw [List.length_append, List.length_singleton]; omega)⟩
    rcases List.mem_append.mp hh with hh | hh
    · exact hr h hh
    · exact ⟨_, List.mem_singleton.mp hh, sm_div (by omega) (by omega) (by omega)⟩
  · rintro acc r2 ⟨es, rfl, hl, hr, hw⟩
    walk_at "do"
    rw [List.length_nil, Nat.add_zero] at hl
    refine en_rtI (ds := es) rfl ?_
    exact q _ _ hl hr (well_up hw (by omega))
end FL
namespace FL
open PySem PySem.Spec L2
local macro_rules | `(tactic| walk_at "go") => `(tactic| with_reducible first
  | refine wp_seq ?_ | refine wp_sIf ?_ | refine wp_ret ?_ | refine wp_set ?_ | refine wp_asg ?_ | refine wp_setL ?_ | refine wp_retL ?_ | refine wp_expr ?_
  | refine wp_2 ?_ | refine wp_1 ?_ | refine wp_C ?_ | refine wp_xB ?_ | refine wp_cons ?_ | refine wp_P ?_ | refine wp_xT ?_ | refine wp_tru ?_ | refine wp_tup ?_ | refine wp_lst ?_ | refine wp_fz ?_ | refine wp_oInt ?_ | refine wp_cut ?_
  | refine wp_and ?_ | refine wp_or ?_ | refine wp_not ?_ | refine wp_tAnd ?_ | refine wp_tOr ?_ | refine wp_tNot ?_ | refine wp_xIf ?_ | refine wp_chain ?_ | refine wp_par2 ?_ | refine wp_par3 ?_ | refine wp_parN ?_ | refine wp_pVal ?_ | refine wp_pNew ?_
  | refine wp_lB ?_ | refine wp_iOf ?_ | refine wp_iRow ?_ | refine wp_for ?_ | refine wp_forc ?_ | refine wp_forn ?_ | refine wp_gsCons ?_ | refine wp_gsNil ?_ | refine wp_its0 ?_ | refine wp_aVal ?_
  | refine fl_nx ?_ | refine fl_rt ?_ | refine fl_rtL ?_ | refine fl_co ?_ | refine fl_br ?_ | refine br_t ?_ | refine br_f ?_ | refine br_t' ?_ | refine br_f' ?_ | refine br_n ?_ | refine br_n' ?_ | refine en_rt ?_ | refine en_rtL ?_ | refine in_nx ?_ | refine in_co ?_ | refine it_nx ?_ | refine it_co ?_ | refine it_rt ?_ | refine it_br ?_ | refine ex_bl ?_ | refine ex_int ?_)
local macro_rules | `(tactic| walk_at "sd") => `(tactic| first
  | ((with_reducible refine' wp_var ?e ?_); case e => rfl)
  | ((with_reducible refine' wp_gsTup ?e ?_); case e => rfl)
  | ((with_reducible refine' wp_setv ?e ?_); (case e => exact Nat.le_of_ble_eq_true rfl); try dsimp only [List.set])
  | ((with_reducible refine' wp_itsV ?e ?_); (case e => exact Nat.le_of_ble_eq_true rfl); try dsimp only [List.set])
  | ((with_reducible refine' wp_itsN ?e ?_); (case e => exact Nat.le_of_ble_eq_true rfl); try dsimp only [List.set])
  | ((with_reducible refine' wp_lend' ?e ?_); case e => rfl)
  | ((with_reducible refine' wp_gsSub ?h ?c); case c => exact ⟨_, _, rfl⟩)
  | ((with_reducible refine' wp_late ?e ?_); case e => exact ⟨_, _, rfl⟩))
local macro_rules | `(tactic| walk_at "ex") => `(tactic| first
  | ((with_reducible refine' ex_sub ?e ?f ?_); (case e => rfl); (case f => rfl); try dsimp only [List.set])
  | ((with_reducible refine' ex_sb ?e ?_); case e => rfl)
  | ((with_reducible refine' ex_so ?e ?_); case e => rfl)
  | ((with_reducible refine' ex_p2 ?e ?f ?_); (case e => exact Nat.le_of_ble_eq_true rfl); (case f => exact Nat.le_of_ble_eq_true rfl); try dsimp only [List.set])
  | ((with_reducible refine' ex_p3 ?e ?f ?g ?_); (case e => exact Nat.le_of_ble_eq_true rfl); (case f => exact Nat.le_of_ble_eq_true rfl); (case g => exact Nat.le_of_ble_eq_true rfl); try dsimp only [List.set])
  | ((with_reducible refine' And.intro ?e ?_); (case e => rfl))
  | ((with_reducible refine' And.intro ?e ?_); (case e => exact Nat.le_of_ble_eq_true rfl); try dsimp only [List.set]))
local macro_rules | `(tactic| walk_at "op") => `(tactic| first
  | (with_reducible refine' wp_O (eq_int _ _) ?_)
  | (with_reducible refine' wp_O (ne_int _ _) ?_)
  | (with_reducible refine' wp_O (eq_bl _ _) ?_)
  | ((with_reducible refine' wp_O (mul_ok (small _ ?e) (small _ ?f)) ?_); (case e => omega); (case f => omega))
  | ((with_reducible refine' wp_O (mod_ok ?e) ?_); case e => omega)
  | ((with_reducible refine' wp_O (div_ok ?e (small _ ?f)) ?_); (case e => omega); case f => omega)
  | ((with_reducible refine' wp_O (dm_ok ?e ?f) ?_); (case e => omega); case f => omega)
  | ((with_reducible refine' wp_O ?e ?_); case e => rfl))
local macro_rules | `(tactic| walk_at "to") => `(tactic| repeat (first | walk_at "go" | walk_at "sd" | walk_at "ex"))
local macro_rules | `(tactic| walk_at "do") => `(tactic| repeat (first | walk_at "go" | walk_at "sd" | walk_at "op" | walk_at "ex"))
def sm2 : D → Bool
  | .tup [.int _, .int m] => decide (m.natAbs < 2 ^ 64)
  | _ => true
def sm3 : D → Bool
  | .tup ds => ds.all sm2
  | _ => true
theorem sm2_of {d : D} (h : sm2 d = true) : ∀ n m, d = .tup [.int n, .int m] → m.natAbs < 2 ^ 490 := fun n m e => by
  subst e
  exact Nat.lt_of_lt_of_le (of_decide_eq_true h) (pow_le _ _ (by decide))
theorem f_lrow {ds : List D} (h : ty3 (.tup ds)) (hs : sm3 (.tup ds) = true) (h9 : ds.length ≤ 9) {Q : D → List Ent → Prop} (q : Q (.bl (ds.all fracB)) []) : WpF F__law_is_row (valsOf [.tup ds, .int ds.length]) Q := by
  refine wp_def ?_
  unfold B__law_is_row
  show Wp _ [.val (.tup ds), .val (.int ds.length), .no] _
  walk_at "do"
  refine br_d (fun h1 => ?_) (fun h1 => (h1 rfl).elim)
  walk_at "do"
  refine wp_comp (fun _ => true) (fun e => .bl (fracB e)) ?_
  walk_at "do"
  refine ⟨by show ds.length ≤ 100000; omega, fun e he => ?_, ?_⟩
  · walk_at "do"
    refine wp_callD ?_
    walk_at "do"
    refine f_lisfr (h.2 _ rfl e he) (sm2_of (List.all_eq_true.mp hs e he)) ?_
    exact ⟨rfl, rfl⟩
  · walk_at "do"
    have ef : (ds.filter fun _ => true).map (fun e => D.bl (fracB e)) = ds.map fun e => .bl (fracB e) := by rw [List.filter_eq_self.mpr (fun _ _ => rfl)]
    have et : ∀ l : List D, trusOf (l.map fun e => .bl (fracB e)) = some (l.map fracB) := fun l => by
      induction l with
      | nil => rfl
      | cons x l ih => show (trusOf (l.map fun e => .bl (fracB e))).map _ = _; rw [ih]; rfl
    have ea : allB [.lst ((ds.filter fun _ => true).map (fun e => D.bl (fracB e)))] = some (.bl (ds.all fracB)) := by
      rw [ef]
      show (trusOf _).map _ = _
      rw [et]
      show some (D.bl ((ds.map fracB).all id)) = _
      rw [List.all_map]
      rfl
    refine wp_O ea ?_
    walk_at "do"
    exact q
theorem fr_good (q : Rat) : good2 (fr q) = true := rfl
theorem fr_sm {q : Rat} (h : Sm 20 q) : sm2 (fr q) = true := decide_eq_true (Nat.lt_of_lt_of_le (den_sm h) (pow_le _ _ (by decide)))
theorem f_near {K : Int} {n : Nat} {ds rs : List D} (hw : Well K ds) (hK : K ≤ 999999000) (n2 : 2 ≤ n) (n9 : n ≤ 9) (hn : rs.length = n) (hr : Runs rs) {Q : D → List Ent → Prop}
    (q : ∀ es vs, Well (K + 2) es → vs.length ≤ 200 → (∀ v ∈ vs, good3 v = true ∧ sm3 v = true) → Q (.lst vs) [.cel .io es]) : WpF F__law_near (ioArgs [] ds [.tup rs]) Q := by
  refine wp_defI ?_
  unfold B__law_near
  show Wp _ [.cel .io ds, .val (.tup rs), .no, .no, .no, .no, .no, .no] _
  walk_at "do"
  refine wp_tk rfl (by decide) hw (by omega) ?_
  walk_at "do"
  refine ⟨by omega, by omega, fun t es t0 t1 hw => ?_⟩
  dsimp only [List.set]
  walk_at "do"
  have ht : t.toNat < rs.length := by omega
  obtain ⟨f, ef, fs⟩ := hr _ (List.getElem_mem ht)
  have fd := f.den_pos
  obtain ⟨a, b, e1, a1, b0, b1⟩ : ∃ a b : Int, rs[t.toNat] = .tup [.int a, .int b] ∧ a.natAbs < 2 ^ 20 ∧ 0 < b ∧ b < 2 ^ 20 := ⟨f.num, f.den, ef, fs.1, by omega, by have := fs.2; omega⟩
  refine wp_O (ix_nat t0 (by rw [List.getElem?_eq_getElem ht, e1])) ?_
  walk_at "do"
  have hl9 : rs.length ≤ 9 := by omega
  have hc : ∀ lo hi, (cutDs rs lo hi).length ≤ 9 := fun lo hi => Nat.le_trans cut_len hl9
  refine wp_O (add_tup (by omega)) ?_
  walk_at "do"
  have h9 := hc none (some 1)
  refine wp_O (add_tup (by omega)) ?_
  walk_at "do"
  obtain ⟨p0, hp0⟩ : ∃ p, rs[0]? = some p := ⟨rs[0], List.getElem?_eq_getElem (by omega)⟩
  have hpp0 : p0 ∈ rs := List.mem_of_getElem? hp0
  refine wp_O (ix_nat (i := 0) (by decide) hp0) ?_
  walk_at "do"
  refine wp_O (ix_nat (i := 0) (by decide) hp0) ?_
  walk_at "do"
  refine wp_O (ix_nat (i := 0) (by decide) hp0) ?_
  walk_at "do"
  refine wp_O (str_ok (by omega)) ?_
  walk_at "do"
  have hs2 : ∀ x ∈ rs, good2 x = true ∧ sm2 x = true := fun x hx => by
    obtain ⟨q, rfl, hq⟩ := hr x hx
    exact ⟨rfl, fr_sm hq⟩
  have hs : ∀ {l : List D}, (∀ x ∈ l, x ∈ rs) → good3 (.tup l) = true ∧ sm3 (.tup l) = true := fun {l} h => ⟨List.all_eq_true.mpr fun x hx => (hs2 x (h x hx)).1, List.all_eq_true.mpr fun x hx => (hs2 x (h x hx)).2⟩
  have hT : rs.all hasTy = true := List.all_eq_true.mpr fun x hx => by
    obtain ⟨q, rfl, _⟩ := hr x hx
    rfl
  have hS : sm2 (.tup rs) = true := by
    unfold sm2
    split
    · rename_i x y e
      cases e
      obtain ⟨q, z, _⟩ := hr (.int x) (List.mem_cons_self ..)
      cases z
    · rfl
  obtain ⟨f0, hf0, _⟩ := hr p0 hpp0
  have ht9 : ∀ {k : Nat}, good3 (.tup (timesL [p0] k)) = true ∧ sm3 (.tup (timesL [p0] k)) = true := fun {k} => hs fun x hx => by
    rw [List.mem_singleton.mp (times_mem hx)]
    exact hpp0
  generalize hF0 : [D.tup rs, D.lst rs, D.tup rs.reverse, D.tup (cutDs rs (some 1) none), D.tup (rs ++ rs),
            D.tup (rs ++ cutDs rs none (some 1)), D.tup (cutDs rs none (some 1)), D.tup [D.tup rs], p0, D.non, D.tup [],
            D.int 0, D.str (Str.ofString "run"), D.dct [], D.bl true, D.tup (timesL [p0] (Int.toNat 9)),
            D.tup (timesL [p0] (Int.toNat 10))] = F0
  have hFl : F0.length ≤ 17 := by rw [← hF0]; exact Nat.le_of_ble_eq_true rfl
  have hF : ∀ v ∈ F0, good3 v = true ∧ sm3 v = true := by
    rw [← hF0]
    intro v hv
    simp only [List.mem_cons, List.not_mem_nil, or_false] at hv
    rcases hv with rfl | rfl | rfl | rfl | rfl | rfl | rfl | rfl | rfl | rfl | rfl | rfl | rfl | rfl | rfl | rfl | rfl
    · exact hs fun _ h => h
    · exact ⟨rfl, rfl⟩
    · exact hs fun _ h => List.mem_reverse.mp h
    · exact hs fun _ h => cut_mem h
    · exact hs fun _ h => (List.mem_append.mp h).elim id id
    · exact hs fun _ h => (List.mem_append.mp h).elim id cut_mem
    · exact hs fun _ h => cut_mem h
    · refine ⟨?_, ?_⟩
      · show (rs.all hasTy && true) = true
        rw [hT]; rfl
      · show (sm2 (.tup rs) && true) = true
        rw [hS]; rfl
    · rw [hf0]; exact ⟨rfl, rfl⟩
    · exact ⟨rfl, rfl⟩
    · exact ⟨rfl, rfl⟩
    · exact ⟨rfl, rfl⟩
    · exact ⟨rfl, rfl⟩
    · exact ⟨rfl, rfl⟩
    · exact ⟨rfl, rfl⟩
    · exact ht9
    · exact ht9
  clear hF0
  generalize hP0 : ([D.tup [D.int (2 * a), D.int (2 * b)], D.tup [D.int a, D.int (-b)], D.tup [D.int (-a), D.int b],
              D.tup [D.int (-a), D.int (-b)], D.tup [D.int 0, D.int b], D.tup [D.int 0, D.int 1],
              D.tup [D.int a, D.int 0], D.tup [D.bl true, D.int 1], D.tup [D.int a, D.bl true], D.tup [D.int a, D.non],
              D.tup [D.str (Str.ofString (toString a)), D.int b], D.lst [D.int a, D.int b], D.tup [D.int a],
              D.tup [D.int a, D.int b, D.int 1], D.tup [], D.non, D.int a, D.tup [D.int (a + b), D.int b]] ++
            [D.tup [D.int (10 ^ Int.toNat 30), D.int 7], D.tup [D.tup [D.int a, D.int b]]]) = P0
  have hPl : P0.length ≤ 20 := by rw [← hP0]; exact Nat.le_of_ble_eq_true rfl
  have hP : ∀ v ∈ P0, good2 v = true := by rw [← hP0]; exact List.all_eq_true.mp rfl
  have hPs : ∀ v ∈ P0, sm2 v = true := by
    rw [← hP0]
    refine List.all_eq_true.mp ?_
    simp only [List.cons_append, List.nil_append, List.all_cons, List.all_nil, Bool.and_true, Bool.and_eq_true]
    refine ⟨decide_eq_true ?_, decide_eq_true ?_, decide_eq_true ?_, decide_eq_true ?_, decide_eq_true ?_, rfl, rfl, rfl, rfl, rfl, rfl, rfl, rfl, rfl, rfl, rfl, rfl, decide_eq_true ?_, rfl, rfl⟩ <;> omega
  clear hP0
  have hall : ∀ {l : List D} {f : D → D}, ((l.filter fun _ => true).map f) = l.map f := fun {l f} => by rw [List.filter_eq_self.mpr fun _ _ => rfl]
  have hg : ∀ {l : List D} {v : D}, good2 v = true → sm2 v = true → (∀ x ∈ l, x ∈ rs ∨ x = v) → good3 (.tup l) = true ∧ sm3 (.tup l) = true := fun {l v} hv hv2 h => ⟨List.all_eq_true.mpr fun x hx => by
    rcases h x hx with h | h
    · exact (hs2 x h).1
    · rw [h]; exact hv, List.all_eq_true.mpr fun x hx => by
    rcases h x hx with h | h
    · exact (hs2 x h).2
    · rw [h]; exact hv2⟩
  refine wp_comp (fun _ => true) (fun v => .tup (cutDs rs none (some t) ++ [v] ++ cutDs rs (some (t + 1)) none)) ?_
  walk_at "do"
  refine ⟨by show P0.length ≤ 100000; omega, fun v hv => ?_, ?_⟩
  · walk_at "do"
    have q1 := hc none (some t)
    have q2 := hc (some (t + 1)) none
    refine wp_O (add_tup (by show _ + 1 ≤ _; omega)) ?_
    walk_at "do"
    refine wp_O (add_tup (by rw [List.length_append]; show _ + 1 + _ ≤ _; omega)) ?_
    exact ⟨rfl, rfl⟩
  rw [hall]
  generalize hD1 : P0.map (fun v => D.tup (cutDs rs none (some t) ++ [v] ++ cutDs rs (some (t + 1)) none)) = D1
  have hD1l : D1.length ≤ 20 := by rw [← hD1, List.length_map]; exact hPl
  have hD1g : ∀ v ∈ D1, good3 v = true ∧ sm3 v = true := by
    rw [← hD1]
    intro v hv
    obtain ⟨w, h1, rfl⟩ := List.mem_map.mp hv
    refine hg (hP w h1) (hPs w h1) fun x hx => ?_
    rcases List.mem_append.mp hx with h | h
    · rcases List.mem_append.mp h with h | h
      · exact .inl (cut_mem h)
      · exact .inr (List.mem_singleton.mp h)
    · exact .inl (cut_mem h)
  clear hD1
  refine wp_O (add_lst (by omega)) ?_
  walk_at "do"
  refine en_rtI (ds := es) rfl ?_
  refine q _ _ hw (by rw [List.length_append]; omega) fun v hv => ?_
  rcases List.mem_append.mp hv with h | h
  · exact hF v h
  · exact hD1g v h
end FL
namespace FL
open PySem PySem.Spec L2
local macro_rules | `(tactic| walk_at "go") => `(tactic| with_reducible first
  | refine wp_seq ?_ | refine wp_sIf ?_ | refine wp_ret ?_ | refine wp_set ?_ | refine wp_asg ?_ | refine wp_setL ?_ | refine wp_retL ?_ | refine wp_expr ?_
  | refine wp_2 ?_ | refine wp_1 ?_ | refine wp_C ?_ | refine wp_xB ?_ | refine wp_cons ?_ | refine wp_P ?_ | refine wp_xT ?_ | refine wp_tru ?_ | refine wp_tup ?_ | refine wp_lst ?_ | refine wp_fz ?_ | refine wp_oInt ?_ | refine wp_cut ?_
  | refine wp_and ?_ | refine wp_or ?_ | refine wp_not ?_ | refine wp_tAnd ?_ | refine wp_tOr ?_ | refine wp_tNot ?_ | refine wp_xIf ?_ | refine wp_chain ?_ | refine wp_par2 ?_ | refine wp_par3 ?_ | refine wp_parN ?_ | refine wp_pVal ?_ | refine wp_pNew ?_
  | refine wp_lB ?_ | refine wp_iOf ?_ | refine wp_iRow ?_ | refine wp_for ?_ | refine wp_forc ?_ | refine wp_forn ?_ | refine wp_gsCons ?_ | refine wp_gsNil ?_ | refine wp_its0 ?_ | refine wp_aVal ?_
  | refine fl_nx ?_ | refine fl_rt ?_ | refine fl_rtL ?_ | refine fl_co ?_ | refine fl_br ?_ | refine br_t ?_ | refine br_f ?_ | refine br_t' ?_ | refine br_f' ?_ | refine br_n ?_ | refine br_n' ?_ | refine en_rt ?_ | refine en_rtL ?_ | refine in_nx ?_ | refine in_co ?_ | refine it_nx ?_ | refine it_co ?_ | refine it_rt ?_ | refine it_br ?_ | refine ex_bl ?_ | refine ex_int ?_)
local macro_rules | `(tactic| walk_at "sd") => `(tactic| first
  | ((with_reducible refine' wp_var ?e ?_); case e => rfl)
  | ((with_reducible refine' wp_gsTup ?e ?_); case e => rfl)
  | ((with_reducible refine' wp_setv ?e ?_); (case e => exact Nat.le_of_ble_eq_true rfl); try dsimp only [List.set])
  | ((with_reducible refine' wp_itsV ?e ?_); (case e => exact Nat.le_of_ble_eq_true rfl); try dsimp only [List.set])
  | ((with_reducible refine' wp_itsN ?e ?_); (case e => exact Nat.le_of_ble_eq_true rfl); try dsimp only [List.set])
  | ((with_reducible refine' wp_lend' ?e ?_); case e => rfl)
  | ((with_reducible refine' wp_gsSub ?h ?c); case c => exact ⟨_, _, rfl⟩)
  | ((with_reducible refine' wp_late ?e ?_); case e => exact ⟨_, _, rfl⟩))
local macro_rules | `(tactic| walk_at "ex") => `(tactic| first
  | ((with_reducible refine' ex_sub ?e ?f ?_); (case e => rfl); (case f => rfl); try dsimp only [List.set])
  | ((with_reducible refine' ex_sb ?e ?_); case e => rfl)
  | ((with_reducible refine' ex_so ?e ?_); case e => rfl)
  | ((with_reducible refine' ex_p2 ?e ?f ?_); (case e => exact Nat.le_of_ble_eq_true rfl); (case f => exact Nat.le_of_ble_eq_true rfl); try dsimp only [List.set])
  | ((with_reducible refine' ex_p3 ?e ?f ?g ?_); (case e => exact Nat.le_of_ble_eq_true rfl); (case f => exact Nat.le_of_ble_eq_true rfl); (case g => exact Nat.le_of_ble_eq_true rfl); try dsimp only [List.set])
  | ((with_reducible refine' And.intro ?e ?_); (case e => rfl))
  | ((with_reducible refine' And.intro ?e ?_); (case e => exact Nat.le_of_ble_eq_true rfl); try dsimp only [List.set]))
local macro_rules | `(tactic| walk_at "op") => `(tactic| first
  | (with_reducible refine' wp_O (eq_int _ _) ?_)
  | (with_reducible refine' wp_O (ne_int _ _) ?_)
  | (with_reducible refine' wp_O (eq_bl _ _) ?_)
  | ((with_reducible refine' wp_O (mul_ok (small _ ?e) (small _ ?f)) ?_); (case e => omega); (case f => omega))
  | ((with_reducible refine' wp_O (mod_ok ?e) ?_); case e => omega)
  | ((with_reducible refine' wp_O (div_ok ?e (small _ ?f)) ?_); (case e => omega); case f => omega)
  | ((with_reducible refine' wp_O (dm_ok ?e ?f) ?_); (case e => omega); case f => omega)
  | ((with_reducible refine' wp_O ?e ?_); case e => rfl))
local macro_rules | `(tactic| walk_at "to") => `(tactic| repeat (first | walk_at "go" | walk_at "sd" | walk_at "ex"))
local macro_rules | `(tactic| walk_at "do") => `(tactic| repeat (first | walk_at "go" | walk_at "sd" | walk_at "op" | walk_at "ex"))
theorem wp_io1 {j : Nat} {T : List Nat} {r : List Ent} {e : M D} {F : List Ent → R D} {k : CK} {ds : List D} {Q : D → List Ent → Prop} (hr : r[j]? = some (.cel k ds)) (hj : j ∈ T)
    (he : Wp e r fun d r1 => r1 = r ∧ WpF F (ioArgs [] ds [d]) fun t o => ∃ es, o = [.cel .io es] ∧ Q t (r.set j (.cel k es))) : Wp (callI 2 0 T F (aLate j (aVal e (mP [])))) r Q := by
  refine wp_callI (wp_late ⟨_, _, hr⟩ (wp_aVal (he.imp fun d r1 ⟨e1, h⟩ => ?_)))
  subst e1
  exact wp_P ⟨[], j, [d], k, ds, rfl, ⟨rfl, rfl, hj⟩, hr, h⟩
def qOf : D → Rat
  | .tup [.int n, .int m] => Rat.divInt n m
  | _ => 0
theorem qOf_fr (q : Rat) : qOf (fr q) = q := Rat.num_divInt_den q
theorem rg_mem {lo : Int} {n : Nat} {d : D} (h : d ∈ rgD lo n) : ∃ i : Nat, d = .int (lo + i) ∧ i < n := by
  obtain ⟨i, hi, rfl⟩ := List.mem_map.mp h
  exact ⟨i, rfl, List.mem_range.mp hi⟩
def HOk (h : D) : Prop := SmD h ∧ fracB h = true
theorem HOk.g2 {h : D} (o : HOk h) : good2 h = true := by
  obtain ⟨q, rfl⟩ := fr_of o.2
  rfl
theorem hok_fr {q : Rat} (h : Sm 240 q) : HOk (fr q) := ⟨⟨q.num, q.den, rfl, h.1, den_sm h⟩, fracB_fr q⟩
def ROk (bs rs : List D) : Prop := rs.length = bs.length ∧ ∀ h ∈ rs, HOk h
theorem ins_ok {bs rs : List D} (hp : ∀ p ∈ bs, pairB p = true) (h : Ins bs rs) : ROk bs rs ∧ (∀ i, i < bs.length → ∃ q lo hi, rs[i]? = some (fr q) ∧ Sm 20 q ∧ bs[i]? = some (.tup [.int lo, .int hi]) ∧ Btw lo hi q) := by
  have key : ∀ i, i < bs.length → ∃ q lo hi, rs[i]? = some (fr q) ∧ Sm 20 q ∧ bs[i]? = some (.tup [.int lo, .int hi]) ∧ Btw lo hi q := fun i hi => by
    obtain ⟨lo, hi2, eb, _⟩ := pairB_of (hp _ (List.getElem_mem hi))
    have eb2 : bs[i]? = some (.tup [.int lo, .int hi2]) := by rw [List.getElem?_eq_getElem hi, eb]
    obtain ⟨q, e2, e3, e4⟩ := h.2 i lo hi2 eb2
    exact ⟨q, lo, hi2, e2, e3, eb2, e4⟩
  refine ⟨⟨h.1, fun x hx => ?_⟩, key⟩
  obtain ⟨i, hi, e⟩ := List.mem_iff_getElem.mp hx
  obtain ⟨q, lo, hi2, e2, e3, _⟩ := key i (by rw [← h.1]; exact hi)
  rw [List.getElem?_eq_getElem hi, e] at e2
  rw [Option.some.inj e2]
  exact hok_fr (e3.mono (by decide))
theorem btw_in {lo hi : Int} {q : Rat} (h : Btw lo hi q) : inB (.tup [.int lo, .int hi]) (fr q) = true := by
  show (!decide (q.num * 1 < lo * q.den) && !decide (hi * q.den < q.num * 1)) = true
  have h1 := h.1
  have h2 := h.2
  rw [decide_eq_false (by omega), decide_eq_false (by omega)]
  rfl
theorem f_put {rs : List D} {at' : Int} {x : D} (h9 : rs.length ≤ 9) {Q : D → List Ent → Prop} (q : Q (.tup (cutDs rs none (some at') ++ [x] ++ cutDs rs (some (at' + 1)) none)) []) : WpF F__law_put (valsOf [.tup rs, .int at', x]) Q := by
  have hc : ∀ lo hi, (cutDs rs lo hi).length ≤ 9 := fun lo hi => Nat.le_trans cut_len h9
  refine wp_def ?_
  unfold B__law_put
  show Wp _ [.val (.tup rs), .val (.int at'), .val x] _
  walk_at "do"
  have q1 := hc none (some at')
  have q2 := hc (some (at' + 1)) none
  refine wp_O (add_tup (by show _ + 1 ≤ _; omega)) ?_
  walk_at "do"
  refine wp_O (add_tup (by rw [List.length_append]; show _ + 1 + _ ≤ _; omega)) ?_
  walk_at "do"
  exact q
theorem put_ok {bs rs : List D} {at' : Int} {x : D} (h : ROk bs rs) (h0 : 0 ≤ at') (h1 : at' < rs.length) (hx : HOk x) : ROk bs (cutDs rs none (some at') ++ [x] ++ cutDs rs (some (at' + 1)) none) := by
  refine ⟨?_, fun y hy => ?_⟩
  · rw [← h.1]
    have a : HT.sIx rs.length rs.length (some at') = at'.toNat := by
      show (if at' < 0 then (at' + (rs.length : Int)).toNat else min at'.toNat rs.length) = _
      rw [if_neg (by omega)]
      omega
    have b : HT.sIx rs.length 0 (some (at' + 1)) = at'.toNat + 1 := by
      show (if at' + 1 < 0 then (at' + 1 + (rs.length : Int)).toNat else min (at' + 1).toNat rs.length) = _
      rw [if_neg (by omega)]
      omega
    unfold cutDs
    rw [a, b]
    simp only [List.length_append, List.length_take, List.length_drop, List.length_singleton, HT.sIx_none]
    omega
  · rcases List.mem_append.mp hy with hy | hy
    · rcases List.mem_append.mp hy with hy | hy
      · exact h.2 y (cut_mem hy)
      · rw [List.mem_singleton.mp hy]; exact hx
    · exact h.2 y (cut_mem hy)
theorem frac_mk {n m : Int} (h : 0 < m) (h2 : Nat.gcd n.natAbs m.natAbs = 1) : fracB (.tup [.int n, .int m]) = true := Bool.and_eq_true_iff.mpr ⟨decide_eq_true h, decide_eq_true h2⟩
theorem hok_int {z : Int} (h : z.natAbs < 2 ^ 64) : HOk (.tup [.int z, .int 1]) := by
  exact ⟨⟨z, 1, rfl, pw9 h, by decide⟩, frac_mk (by decide) (Nat.gcd_one_right _)⟩
theorem hok_seven {z : Int} (h : z.natAbs < 2 ^ 64) (h7 : z % 7 ≠ 0) : HOk (.tup [.int z, .int 7]) := by
  refine ⟨⟨z, 7, rfl, pw9 h, by decide⟩, frac_mk (by decide) ?_⟩
  show Nat.gcd z.natAbs 7 = 1
  have g := Nat.gcd_dvd_right z.natAbs 7
  have g2 := Nat.gcd_dvd_left z.natAbs 7
  have le := Nat.le_of_dvd (by decide) g
  generalize Nat.gcd z.natAbs 7 = k at *
  · rcases (by omega : k = 0 ∨ k = 1 ∨ k = 2 ∨ k = 3 ∨ k = 4 ∨ k = 5 ∨ k = 6 ∨ k = 7) with rfl | rfl | rfl | rfl | rfl | rfl | rfl | rfl
    · exact absurd g (by decide)
    · rfl
    · exact absurd g (by decide)
    · exact absurd g (by decide)
    · exact absurd g (by decide)
    · exact absurd g (by decide)
    · exact absurd g (by decide)
    · omega
end FL
namespace FL
open PySem PySem.Spec L2
local macro_rules | `(tactic| walk_at "go") => `(tactic| with_reducible first
  | refine wp_seq ?_ | refine wp_sIf ?_ | refine wp_ret ?_ | refine wp_set ?_ | refine wp_asg ?_ | refine wp_setL ?_ | refine wp_retL ?_ | refine wp_expr ?_
  | refine wp_2 ?_ | refine wp_1 ?_ | refine wp_C ?_ | refine wp_xB ?_ | refine wp_cons ?_ | refine wp_P ?_ | refine wp_xT ?_ | refine wp_tru ?_ | refine wp_tup ?_ | refine wp_lst ?_ | refine wp_fz ?_ | refine wp_oInt ?_ | refine wp_cut ?_
  | refine wp_and ?_ | refine wp_or ?_ | refine wp_not ?_ | refine wp_tAnd ?_ | refine wp_tOr ?_ | refine wp_tNot ?_ | refine wp_xIf ?_ | refine wp_chain ?_ | refine wp_par2 ?_ | refine wp_par3 ?_ | refine wp_parN ?_ | refine wp_pVal ?_ | refine wp_pNew ?_
  | refine wp_lB ?_ | refine wp_iOf ?_ | refine wp_iRow ?_ | refine wp_for ?_ | refine wp_forc ?_ | refine wp_forn ?_ | refine wp_gsCons ?_ | refine wp_gsNil ?_ | refine wp_its0 ?_ | refine wp_aVal ?_
  | refine fl_nx ?_ | refine fl_rt ?_ | refine fl_rtL ?_ | refine fl_co ?_ | refine fl_br ?_ | refine br_t ?_ | refine br_f ?_ | refine br_t' ?_ | refine br_f' ?_ | refine br_n ?_ | refine br_n' ?_ | refine en_rt ?_ | refine en_rtL ?_ | refine in_nx ?_ | refine in_co ?_ | refine it_nx ?_ | refine it_co ?_ | refine it_rt ?_ | refine it_br ?_ | refine ex_bl ?_ | refine ex_int ?_)
local macro_rules | `(tactic| walk_at "sd") => `(tactic| first
  | ((with_reducible refine' wp_var ?e ?_); case e => rfl)
  | ((with_reducible refine' wp_gsTup ?e ?_); case e => rfl)
  | ((with_reducible refine' wp_setv ?e ?_); (case e => exact Nat.le_of_ble_eq_true rfl); try dsimp only [List.set])
  | ((with_reducible refine' wp_itsV ?e ?_); (case e => exact Nat.le_of_ble_eq_true rfl); try dsimp only [List.set])
  | ((with_reducible refine' wp_itsN ?e ?_); (case e => exact Nat.le_of_ble_eq_true rfl); try dsimp only [List.set])
  | ((with_reducible refine' wp_lend' ?e ?_); case e => rfl)
  | ((with_reducible refine' wp_gsSub ?h ?c); case c => exact ⟨_, _, rfl⟩)
  | ((with_reducible refine' wp_late ?e ?_); case e => exact ⟨_, _, rfl⟩))
local macro_rules | `(tactic| walk_at "ex") => `(tactic| first
  | ((with_reducible refine' ex_sub ?e ?f ?_); (case e => rfl); (case f => rfl); try dsimp only [List.set])
  | ((with_reducible refine' ex_sb ?e ?_); case e => rfl)
  | ((with_reducible refine' ex_so ?e ?_); case e => rfl)
  | ((with_reducible refine' ex_p2 ?e ?f ?_); (case e => exact Nat.le_of_ble_eq_true rfl); (case f => exact Nat.le_of_ble_eq_true rfl); try dsimp only [List.set])
  | ((with_reducible refine' ex_p3 ?e ?f ?g ?_); (case e => exact Nat.le_of_ble_eq_true rfl); (case f => exact Nat.le_of_ble_eq_true rfl); (case g => exact Nat.le_of_ble_eq_true rfl); try dsimp only [List.set])
  | ((with_reducible refine' And.intro ?e ?_); (case e => rfl))
  | ((with_reducible refine' And.intro ?e ?_); (case e => exact Nat.le_of_ble_eq_true rfl); try dsimp only [List.set]))
local macro_rules | `(tactic| walk_at "op") => `(tactic| first
  | (with_reducible refine' wp_O (eq_int _ _) ?_)
  | (with_reducible refine' wp_O (ne_int _ _) ?_)
  | (with_reducible refine' wp_O (eq_bl _ _) ?_)
  | ((with_reducible refine' wp_O (mul_ok (small _ ?e) (small _ ?f)) ?_); (case e => omega); (case f => omega))
  | ((with_reducible refine' wp_O (mod_ok ?e) ?_); case e => omega)
  | ((with_reducible refine' wp_O (div_ok ?e (small _ ?f)) ?_); (case e => omega); case f => omega)
  | ((with_reducible refine' wp_O (dm_ok ?e ?f) ?_); (case e => omega); case f => omega)
  | ((with_reducible refine' wp_O ?e ?_); case e => rfl))
local macro_rules | `(tactic| walk_at "to") => `(tactic| repeat (first | walk_at "go" | walk_at "sd" | walk_at "ex"))
local macro_rules | `(tactic| walk_at "do") => `(tactic| repeat (first | walk_at "go" | walk_at "sd" | walk_at "op" | walk_at "ex"))
theorem rok_ty {bs rs : List D} (hb : boundsB (.tup bs) = true) (h : ROk bs rs) : ty3 (.tup bs) ∧ ty3 (.tup rs) ∧ runB (.tup rs) = true ∧ rs.length ≤ 9 ∧ (∀ p ∈ bs, pairB p = true) ∧ ∀ x ∈ rs, SmD x := by
  have hr : rightB (.tup bs) = true := (Bool.and_eq_true_iff.mp hb).1
  simp only [rightB, Bool.and_eq_true, decide_eq_true_eq] at hr
  have hp : ∀ p ∈ bs, pairB p = true := List.all_eq_true.mp hr.2
  refine ⟨ty3_of (List.all_eq_true.mpr fun x hx => good2_pair (hp x hx)), ty3_of (List.all_eq_true.mpr fun x hx => (h.2 x hx).g2), ?_, by rw [h.1]; exact hr.1.2, hp, fun x hx => (h.2 x hx).1⟩
  unfold runB
  simp only [Bool.and_eq_true, decide_eq_true_eq]
  rw [h.1]
  exact ⟨hr.1, List.all_eq_true.mpr fun x hx => (h.2 x hx).2⟩
def gl (a _b : Int) : Int := a
def gr (_a b : Int) : Int := b
def endF (g : Int → Int → Int) : D → D
  | .tup [.int a, .int b] => .tup [.int (g a b), .int 1]
  | _ => .non
theorem f_bright {K : Int} {ds bs : List D} (hw : Well K ds) (hK : K ≤ 999990000) (hb : boundsB (.tup bs) = true) {Q : D → List Ent → Prop} (q : ∀ es, Well (K + 1000) es → Q (.bl true) [.cel .io es]) : WpF F__law_bounds_right (ioArgs [] ds [.tup bs]) Q := by
  have hr : rightB (.tup bs) = true := (Bool.and_eq_true_iff.mp hb).1
  simp only [rightB, Bool.and_eq_true, decide_eq_true_eq] at hr
  have hp : ∀ p ∈ bs, pairB p = true := List.all_eq_true.mp hr.2
  have l9 : bs.length ≤ 9 := hr.1.2
  have l2 : 2 ≤ bs.length := hr.1.1
  refine wp_defI ?_
  unfold B__law_bounds_right
  show Wp _ [.cel .io ds, .val (.tup bs), .no, .no, .no, .no, .no, .no, .no, .no, .no, .no, .no, .no] _
  walk_at "do"
  refine wp_io1 rfl (by decide) ?_
  walk_at "do"
  refine f_runin hw (by omega) l9 hp fun es rs hin1 hw => ⟨es, rfl, ?_⟩
  dsimp only [List.set]
  walk_at "do"
  refine wp_io1 rfl (by decide) ?_
  walk_at "do"
  refine f_runin hw (by omega) l9 hp fun es os hin2 hw => ⟨es, rfl, ?_⟩
  dsimp only [List.set]
  walk_at "do"
  refine wp_callD ?_
  walk_at "do"
  refine wp_tk rfl (by decide) hw (by omega) ?_
  walk_at "do"
  refine ⟨by omega, by omega, fun s es s0 s1 hw => ?_⟩
  dsimp only [List.set]
  walk_at "do"
  refine f_part (by omega) (Nat.lt_of_lt_of_le (show (7 : Int).natAbs < 2 ^ 64 by decide) (pow_le _ _ (by decide))) ?_
  have sh : Sm 20 (Rat.divInt s 7) := sm_div (by omega) (by omega) (by omega)
  have sh0 : Btw 0 1 (Rat.divInt s 7) := btw_div (by omega) (by omega) (by omega)
  generalize Rat.divInt s 7 = share at sh sh0
  have sh1 := btw_rat.mp sh0
  obtain ⟨ok1, at1⟩ := ins_ok hp hin1
  obtain ⟨ok2, at2⟩ := ins_ok hp hin2
  walk_at "do"
  refine wp_comp (fun _ => true) (fun d => match d with
    | .int k => fr (qOf (rs.getD k.toNat .non) + share * (qOf (os.getD k.toNat .non) - qOf (rs.getD k.toNat .non)))
    | _ => .non) ?_
  walk_at "to"
  refine wp_O (range1_ok ⟨by omega, by omega⟩) ?_
  rw [Int.toNat_natCast]
  refine ⟨rfl, by unfold rgD; rw [List.length_map, List.length_range]; show bs.length ≤ 100000; omega, fun d hd => ?_, ?_⟩
  · obtain ⟨k, rfl, hk⟩ := rg_mem hd
    obtain ⟨a, lo, hi, ea, sa, eb, ba⟩ := at1 k hk
    obtain ⟨b, _, _, eo, sb, _⟩ := at2 k hk
    have ga : rs.getD ((0 : Int) + (k : Nat)).toNat .non = fr a := by rw [show ((0 : Int) + (k : Nat)).toNat = k by omega]; simp [List.getD, ea]
    have go : os.getD ((0 : Int) + (k : Nat)).toNat .non = fr b := by rw [show ((0 : Int) + (k : Nat)).toNat = k by omega]; simp [List.getD, eo]
    have ia : ixD (.tup rs) (.int (0 + (k : Nat))) = some (fr a) := ix_nat (by omega) (by rw [show ((0 : Int) + (k : Nat)).toNat = k by omega]; exact ea)
    have io : ixD (.tup os) (.int (0 + (k : Nat))) = some (fr b) := ix_nat (by omega) (by rw [show ((0 : Int) + (k : Nat)).toNat = k by omega]; exact eo)
    have dd : Sm 41 (b - a) := sm_sub sb sa
    have mm : Sm 61 (share * (b - a)) := sm_mul sh dd
    walk_at "do"
    refine wp_callD ?_
    walk_at "do"
    refine wp_O ia ?_
    walk_at "do"
    refine wp_callD ?_
    walk_at "do"
    refine wp_callD ?_
    walk_at "do"
    refine wp_O io ?_
    walk_at "do"
    refine wp_O ia ?_
    walk_at "do"
    refine f_minus (sb.mono (by decide)) (sa.mono (by decide)) ?_
    walk_at "do"
    refine f_times (sh.mono (by decide)) (dd.mono (by decide)) ?_
    walk_at "do"
    refine f_plus (sa.mono (by decide)) (mm.mono (by decide)) ?_
    refine ⟨?_, rfl⟩
    show _ = fr (qOf (rs.getD ((0 : Int) + (k : Nat)).toNat .non) + share * (qOf (os.getD ((0 : Int) + (k : Nat)).toNat .non) - qOf (rs.getD ((0 : Int) + (k : Nat)).toNat .non)))
    rw [ga, go, qOf_fr, qOf_fr]
  · rw [List.filter_eq_self.mpr fun _ _ => rfl]
    generalize hM : (rgD 0 bs.length).map (fun d => match d with
      | .int k => fr (qOf (rs.getD k.toNat .non) + share * (qOf (os.getD k.toNat .non) - qOf (rs.getD k.toNat .non)))
      | _ => .non) = ms
    have atM : ∀ i, i < bs.length → ∃ m lo hi, ms[i]? = some (fr m) ∧ Sm 82 m ∧ bs[i]? = some (.tup [.int lo, .int hi]) ∧ Btw lo hi m := fun i hi => by
      obtain ⟨a, lo, hi2, ea, sa, eb, ba⟩ := at1 i hi
      obtain ⟨b, lo', hi', eo, sb, eb', bb⟩ := at2 i hi
      rw [eb] at eb'
      cases eb'
      have dd : Sm 41 (b - a) := sm_sub sb sa
      have mm : Sm 61 (share * (b - a)) := sm_mul sh dd
      refine ⟨a + share * (b - a), lo, hi2, ?_, sm_add sa mm, eb, btw_mix ba bb sh1.1 sh1.2⟩
      rw [← hM, List.getElem?_map]
      have : (rgD 0 bs.length)[i]? = some (.int (0 + (i : Nat))) := by unfold rgD; simp [hi]
      rw [this]
      show some (fr (qOf (rs.getD ((0 : Int) + (i : Nat)).toNat .non) + share * (qOf (os.getD ((0 : Int) + (i : Nat)).toNat .non) - qOf (rs.getD ((0 : Int) + (i : Nat)).toNat .non)))) = _
      have ga : rs.getD ((0 : Int) + (i : Nat)).toNat .non = fr a := by rw [show ((0 : Int) + (i : Nat)).toNat = i by omega]; simp [List.getD, ea]
      have go : os.getD ((0 : Int) + (i : Nat)).toNat .non = fr b := by rw [show ((0 : Int) + (i : Nat)).toNat = i by omega]; simp [List.getD, eo]
      rw [ga, go, qOf_fr, qOf_fr]
    have lM : ms.length = bs.length := by rw [← hM, List.length_map]; unfold rgD; rw [List.length_map, List.length_range]
    clear hM
    have okM : ROk bs ms := ⟨lM, fun x hx => by
      obtain ⟨i, hi, e⟩ := List.mem_iff_getElem.mp hx
      obtain ⟨m, _, _, em, sm, _⟩ := atM i (by rw [← lM]; exact hi)
      rw [List.getElem?_eq_getElem hi, e] at em
      rw [Option.some.inj em]
      exact hok_fr (sm.mono (by decide))⟩
    have inM : allIn bs ms = true := List.all_eq_true.mpr fun i hi => by
      have hi := List.mem_range.mp hi
      obtain ⟨m, lo, hi2, em, sm, eb, bt⟩ := atM i (by rw [← lM]; exact hi)
      have g1 : bs.getD i .non = .tup [.int lo, .int hi2] := by simp [List.getD, eb]
      have g2 : ms.getD i .non = fr m := by simp [List.getD, em]
      rw [g1, g2]
      exact btw_in bt
    change Wp _ [.cel .io es, .val (.tup bs), .val (fr share), .no, .no, .no, .no, .val (.tup rs), .val (.tup os), .val (.int bs.length), .no, .no, .no, .no] _
    walk_at "do"
    refine wp_tk rfl (by decide) hw (by omega) ?_
    walk_at "do"
    refine ⟨by omega, by omega, fun t es t0 t1 hw => ?_⟩
    dsimp only [List.set]
    walk_at "do"
    have ht : t.toNat < bs.length := by omega
    obtain ⟨lo, hi, eb, b1, b2, b3⟩ := pairB_of (hp _ (List.getElem_mem ht))
    refine wp_O (ix_nat t0 (by rw [List.getElem?_eq_getElem ht, eb])) ?_
    walk_at "do"
    refine wp_io1 rfl (by decide) ?_
    walk_at "do"
    refine f_anyrun hw (by omega) l9 fun es as la ra hw => ⟨es, rfl, ?_⟩
    dsimp only [List.set]
    walk_at "do"
    have cmp : ∀ (g : Int → Int → Int), (g = gl ∨ g = gr) → ROk bs (bs.map (endF g)) := fun g hk => by
      refine ⟨List.length_map .., fun x hx => ?_⟩
      obtain ⟨p, hp1, rfl⟩ := List.mem_map.mp hx
      obtain ⟨a, b, rfl, c1, c2, c3⟩ := pairB_of (hp p hp1)
      refine hok_int (z := g a b) ?_
      rcases hk with rfl | rfl
      · show a.natAbs < 2 ^ 64
        omega
      · show b.natAbs < 2 ^ 64
        omega
    refine wp_comp (fun _ => true) (endF gl) ?_
    walk_at "do"
    refine ⟨by show bs.length ≤ 100000; omega, fun v hv => ?_, ?_⟩
    · obtain ⟨a, b, rfl, _⟩ := pairB_of (hp v hv)
      walk_at "do"
      rfl
    rw [List.filter_eq_self.mpr fun _ _ => rfl]
    have okL := cmp gl (.inl rfl)
    generalize bs.map (endF gl) = ls at okL ⊢
    walk_at "do"
    refine wp_comp (fun _ => true) (endF gr) ?_
    walk_at "do"
    refine ⟨by show bs.length ≤ 100000; omega, fun v hv => ?_, ?_⟩
    · obtain ⟨a, b, rfl, _⟩ := pairB_of (hp v hv)
      walk_at "do"
      rfl
    rw [List.filter_eq_self.mpr fun _ _ => rfl]
    have okH := cmp gr (.inr rfl)
    generalize bs.map (endF gr) = hs at okH ⊢
    walk_at "do"
    have okA : ROk bs as := ⟨la, fun x hx => by
      obtain ⟨q, rfl, hq⟩ := ra x hx
      exact hok_fr (hq.mono (by decide))⟩
    refine wp_comp (fun _ => true) (fun x => .tup (cutDs rs none (some t) ++ [x] ++ cutDs rs (some (t + 1)) none)) ?_
    walk_at "do"
    refine ⟨fun v hv => ?_, ?_⟩
    · walk_at "do"
      refine wp_callD ?_
      walk_at "do"
      refine f_put (by rw [ok1.1]; exact l9) ?_
      exact ⟨rfl, rfl⟩
    rw [List.filter_eq_self.mpr fun _ _ => rfl]
    have okP : ∀ v ∈ [D.tup [.int lo, .int 1], .tup [.int hi, .int 1], .tup [.int (7 * lo - 1), .int 7], .tup [.int (7 * hi + 1), .int 7], .tup [.int (lo - 1), .int 1], .tup [.int (hi + 1), .int 1]].map (fun x => D.tup (cutDs rs none (some t) ++ [x] ++ cutDs rs (some (t + 1)) none)), ∃ l, v = .tup l ∧ ROk bs l := by
      intro v hv
      obtain ⟨x, hx, rfl⟩ := List.mem_map.mp hv
      refine ⟨_, rfl, put_ok ok1 t0 (by rw [ok1.1]; exact t1) ?_⟩
      simp only [List.mem_cons, List.not_mem_nil, or_false] at hx
      rcases hx with rfl | rfl | rfl | rfl | rfl | rfl
      · exact hok_int (by omega)
      · exact hok_int (by omega)
      · exact hok_seven (by omega) (by omega)
      · exact hok_seven (by omega) (by omega)
      · exact hok_int (by omega)
      · exact hok_int (by omega)
    generalize hP : [D.tup [.int lo, .int 1], .tup [.int hi, .int 1], .tup [.int (7 * lo - 1), .int 7], .tup [.int (7 * hi + 1), .int 7], .tup [.int (lo - 1), .int 1], .tup [.int (hi + 1), .int 1]].map (fun x => D.tup (cutDs rs none (some t) ++ [x] ++ cutDs rs (some (t + 1)) none)) = ps at okP ⊢
    have lP : ps.length = 6 := by rw [← hP]; rfl
    clear hP
    refine wp_O (add_lst (by show 6 + _ ≤ _; omega)) ?_
    walk_at "to"
    refine wp_O rfl ?_
    have okS : ∀ v ∈ [D.tup rs, .tup os, .tup ms, .tup as, .tup ls, .tup hs] ++ ps, ∃ l, v = .tup l ∧ ROk bs l := by
      intro v hv
      rcases List.mem_append.mp hv with hv | hv
      · simp only [List.mem_cons, List.not_mem_nil, or_false] at hv
        rcases hv with rfl | rfl | rfl | rfl | rfl | rfl
        · exact ⟨_, rfl, ok1⟩
        · exact ⟨_, rfl, ok2⟩
        · exact ⟨_, rfl, okM⟩
        · exact ⟨_, rfl, okA⟩
        · exact ⟨_, rfl, okL⟩
        · exact ⟨_, rfl, okH⟩
      · exact okP v hv
    have lS : ([D.tup rs, .tup os, .tup ms, .tup as, .tup ls, .tup hs] ++ ps).length = 12 := by rw [List.length_append, lP]; rfl
    generalize [D.tup rs, .tup os, .tup ms, .tup as, .tup ls, .tup hs] ++ ps = some' at okS lS ⊢
    refine wp_forN (fun rest r => (∀ v ∈ rest, ∃ l, v = .tup l ∧ ROk bs l) ∧ ∃ es e6 e12 e13, Well (K + 900 - 2 * (rest.length : Int)) es ∧ rest.length ≤ 12 ∧ r = [.cel .io es, .val (.tup bs), .val (fr share), .val (.tup ms), .val (.int t), .val (.lst some'), e6, .val (.tup rs), .val (.tup os), .val (.int bs.length), .val (.int lo), .val (.int hi), e12, e13]) ?_ _ _ ⟨okS, es, _, _, _, well_up hw (by omega), by omega, rfl⟩ ?_
    · rintro v rest r ⟨hv, es, e6, e12, e13, hw, hl, rfl⟩
      rw [List.length_cons] at hw hl
      obtain ⟨l, rfl, okl⟩ := hv v (List.mem_cons_self ..)
      obtain ⟨T1, T2, T3, T4, T5, T6⟩ := rok_ty hb okl
      walk_at "do"
      refine wp_callD ?_
      walk_at "do"
      refine wp_tk rfl (by decide) hw (by omega) ?_
      walk_at "do"
      refine ⟨by omega, by omega, fun u es u0 u1 hw => ?_⟩
      dsimp only [List.set]
      have fin : ∀ z : D, isNoneD z .non = some (.bl (allIn bs l)) → Wp (mO (isNoneD z .non)) [.cel .io es, .val (.tup bs), .val (fr share), .val (.tup ms), .val (.int t), .val (.lst some'), .val (.tup l), .val (.tup rs), .val (.tup os), .val (.int bs.length), .val (.int lo), .val (.int hi), e12, e13] fun d r1 => Wp (mP []) r1 fun ds r2 => (D.bl (allIn bs l) :: d :: ds).length = 2 ∧ WpF F__law_says (valsOf (D.bl (allIn bs l) :: d :: ds)) fun d _ => ∃ k, truB d = some k ∧ ((!k) = true → Wp (sRet (xC (D.bl false))) r2 fun fl r2 => (fl = Fl.nx ∨ fl = Fl.co) ∧ (∀ v ∈ rest, ∃ l, v = .tup l ∧ ROk bs l) ∧ ∃ es e6 e12 e13, Well (K + 900 - 2 * (rest.length : Int)) es ∧ rest.length ≤ 12 ∧ r2 = [.cel .io es, .val (.tup bs), .val (fr share), .val (.tup ms), .val (.int t), .val (.lst some'), e6, .val (.tup rs), .val (.tup os), .val (.int bs.length), .val (.int lo), .val (.int hi), e12, e13]) ∧ ((!k) = false → Wp (mP Fl.nx) r2 fun fl r2 => (fl = Fl.nx ∨ fl = Fl.co) ∧ (∀ v ∈ rest, ∃ l, v = .tup l ∧ ROk bs l) ∧ ∃ es e6 e12 e13, Well (K + 900 - 2 * (rest.length : Int)) es ∧ rest.length ≤ 12 ∧ r2 = [.cel .io es, .val (.tup bs), .val (fr share), .val (.tup ms), .val (.int t), .val (.lst some'), e6, .val (.tup rs), .val (.tup os), .val (.int bs.length), .val (.int lo), .val (.int hi), e12, e13]) := by
        intro z ez
        refine wp_O ez (wp_P ⟨rfl, ?_⟩)
        refine f_says ?_
        rw [show (allIn bs l == allIn bs l) = true from beq_self_eq_true _]
        walk_at "do"
        exact ⟨fun w hw' => hv w (List.mem_cons_of_mem _ hw'), _, _, _, _, well_up hw (by omega), by omega, rfl⟩
      walk_at "do"
      refine br_d (fun g => ?_) (fun g => ?_)
      · walk_at "do"
        refine wp_callKw ?_
        walk_at "do"
        refine f_within T1 hb T2 T3 okl.1 T6 ?_
        walk_at "do"
        refine wp_callD ?_
        walk_at "do"
        refine f_outside okl.1 T4 T5 T6 (fun e => ?_) fun e i => ?_
        · walk_at "to"
          exact fin _ (by rw [e]; rfl)
        · walk_at "to"
          exact fin _ (by rw [e]; rfl)
      · walk_at "do"
        refine wp_callD ?_
        walk_at "do"
        refine f_within T1 hb T2 T3 okl.1 T6 ?_
        walk_at "do"
        refine wp_callD ?_
        walk_at "do"
        refine f_outside okl.1 T4 T5 T6 (fun e => ?_) fun e i => ?_
        · walk_at "to"
          exact fin _ (by rw [e]; rfl)
        · walk_at "to"
          exact fin _ (by rw [e]; rfl)
    · rintro r ⟨_, es, e6, e12, e13, hw, _, rfl⟩
      obtain ⟨T1, T2, T3, T4, T5, T6⟩ := rok_ty hb okM
      walk_at "do"
      refine wp_callD ?_
      walk_at "do"
      refine f_outside okM.1 T4 T5 T6 (fun e => ?_) fun e i => ?_
      · walk_at "do"
        refine en_rtI (ds := es) rfl ?_
        exact q _ (well_up hw (by simp only [List.length_nil]; omega))
      · rw [inM] at e
        cases e
end FL
namespace FL
open PySem PySem.Spec L2
local macro_rules | `(tactic| walk_at "go") => `(tactic| with_reducible first
  | refine wp_seq ?_ | refine wp_sIf ?_ | refine wp_ret ?_ | refine wp_set ?_ | refine wp_asg ?_ | refine wp_setL ?_ | refine wp_retL ?_ | refine wp_expr ?_
  | refine wp_2 ?_ | refine wp_1 ?_ | refine wp_C ?_ | refine wp_xB ?_ | refine wp_cons ?_ | refine wp_P ?_ | refine wp_xT ?_ | refine wp_tru ?_ | refine wp_tup ?_ | refine wp_lst ?_ | refine wp_fz ?_ | refine wp_oInt ?_ | refine wp_cut ?_
  | refine wp_and ?_ | refine wp_or ?_ | refine wp_not ?_ | refine wp_tAnd ?_ | refine wp_tOr ?_ | refine wp_tNot ?_ | refine wp_xIf ?_ | refine wp_chain ?_ | refine wp_par2 ?_ | refine wp_par3 ?_ | refine wp_parN ?_ | refine wp_pVal ?_ | refine wp_pNew ?_
  | refine wp_lB ?_ | refine wp_iOf ?_ | refine wp_iRow ?_ | refine wp_for ?_ | refine wp_forc ?_ | refine wp_forn ?_ | refine wp_gsCons ?_ | refine wp_gsNil ?_ | refine wp_its0 ?_ | refine wp_aVal ?_
  | refine fl_nx ?_ | refine fl_rt ?_ | refine fl_rtL ?_ | refine fl_co ?_ | refine fl_br ?_ | refine br_t ?_ | refine br_f ?_ | refine br_t' ?_ | refine br_f' ?_ | refine br_n ?_ | refine br_n' ?_ | refine en_rt ?_ | refine en_rtL ?_ | refine in_nx ?_ | refine in_co ?_ | refine it_nx ?_ | refine it_co ?_ | refine it_rt ?_ | refine it_br ?_ | refine ex_bl ?_ | refine ex_int ?_)
local macro_rules | `(tactic| walk_at "sd") => `(tactic| first
  | ((with_reducible refine' wp_var ?e ?_); case e => rfl)
  | ((with_reducible refine' wp_gsTup ?e ?_); case e => rfl)
  | ((with_reducible refine' wp_setv ?e ?_); (case e => exact Nat.le_of_ble_eq_true rfl); try dsimp only [List.set])
  | ((with_reducible refine' wp_itsV ?e ?_); (case e => exact Nat.le_of_ble_eq_true rfl); try dsimp only [List.set])
  | ((with_reducible refine' wp_itsN ?e ?_); (case e => exact Nat.le_of_ble_eq_true rfl); try dsimp only [List.set])
  | ((with_reducible refine' wp_lend' ?e ?_); case e => rfl)
  | ((with_reducible refine' wp_gsSub ?h ?c); case c => exact ⟨_, _, rfl⟩)
  | ((with_reducible refine' wp_late ?e ?_); case e => exact ⟨_, _, rfl⟩))
local macro_rules | `(tactic| walk_at "ex") => `(tactic| first
  | ((with_reducible refine' ex_sub ?e ?f ?_); (case e => rfl); (case f => rfl); try dsimp only [List.set])
  | ((with_reducible refine' ex_sb ?e ?_); case e => rfl)
  | ((with_reducible refine' ex_so ?e ?_); case e => rfl)
  | ((with_reducible refine' ex_p2 ?e ?f ?_); (case e => exact Nat.le_of_ble_eq_true rfl); (case f => exact Nat.le_of_ble_eq_true rfl); try dsimp only [List.set])
  | ((with_reducible refine' ex_p3 ?e ?f ?g ?_); (case e => exact Nat.le_of_ble_eq_true rfl); (case f => exact Nat.le_of_ble_eq_true rfl); (case g => exact Nat.le_of_ble_eq_true rfl); try dsimp only [List.set])
  | ((with_reducible refine' And.intro ?e ?_); (case e => rfl))
  | ((with_reducible refine' And.intro ?e ?_); (case e => exact Nat.le_of_ble_eq_true rfl); try dsimp only [List.set]))
local macro_rules | `(tactic| walk_at "op") => `(tactic| first
  | (with_reducible refine' wp_O (eq_int _ _) ?_)
  | (with_reducible refine' wp_O (ne_int _ _) ?_)
  | (with_reducible refine' wp_O (eq_bl _ _) ?_)
  | ((with_reducible refine' wp_O (mul_ok (small _ ?e) (small _ ?f)) ?_); (case e => omega); (case f => omega))
  | ((with_reducible refine' wp_O (mod_ok ?e) ?_); case e => omega)
  | ((with_reducible refine' wp_O (div_ok ?e (small _ ?f)) ?_); (case e => omega); case f => omega)
  | ((with_reducible refine' wp_O (dm_ok ?e ?f) ?_); (case e => omega); case f => omega)
  | ((with_reducible refine' wp_O ?e ?_); case e => rfl))
local macro_rules | `(tactic| walk_at "to") => `(tactic| repeat (first | walk_at "go" | walk_at "sd" | walk_at "ex"))
local macro_rules | `(tactic| walk_at "do") => `(tactic| repeat (first | walk_at "go" | walk_at "sd" | walk_at "op" | walk_at "ex"))
theorem ins_runs {bs rs : List D} (hp : ∀ p ∈ bs, pairB p = true) (h : Ins bs rs) : Runs rs := fun x hx => by
  obtain ⟨i, hi, e⟩ := List.mem_iff_getElem.mp hx
  obtain ⟨q, lo, hi2, e2, e3, _⟩ := (ins_ok hp h).2 i (by rw [← h.1]; exact hi)
  rw [List.getElem?_eq_getElem hi, e] at e2
  exact ⟨q, Option.some.inj e2, e3⟩
theorem f_law {ns : List Int} (hl : ns.length ≤ 63) : WpF F_law [.val (.scr (ns.map .int))] fun d o => d = .bl true ∧ o = [] := by
  refine wp_def ?_
  unfold B_law
  show Wp _ [.val (.scr (ns.map .int)), .no, .no, .no, .no, .no, .no, .no, .no, .no] _
  walk_at "do"
  generalize hz : (fun i j : Int => if j > i then j else i) 3 ((fun i j : Int => if j < i then j else i) ((ns.map D.int).length : Int) 6) = z
  have z1 : 0 ≤ z ∧ z ≤ 100 := by
    rw [← hz]
    dsimp only
    split <;> split <;> omega
  refine wp_O (range1_ok ⟨by omega, by omega⟩) ?_
  refine wp_forN (fun rest r => (∀ d ∈ rest, ∃ i : Int, d = .int i ∧ 0 ≤ i ∧ i ≤ 100) ∧ ∃ e1 e2 e3 e6 e7 e8 e9, r = [.val (.scr (ns.map .int)), e1, e2, e3, .no, .no, e6, e7, e8, e9]) ?_ _ _ ?_ ?_
  · rintro d rest r ⟨hd, e1, e2, e3, e6, e7, e8, e9, rfl⟩
    obtain ⟨i, rfl, i0, i1⟩ := hd d (List.mem_cons_self ..)
    walk_at "do"
    refine wp_callL ?_
    walk_at "do"
    refine f_well hl i0 i1 fun es hw => ?_
    refine ⟨es, rfl, ?_⟩
    walk_at "do"
    refine wp_tk rfl (by decide) hw (by omega) ?_
    walk_at "do"
    refine ⟨by omega, by omega, fun t es t0 t1 hw => ?_⟩
    dsimp only [List.set]
    walk_at "do"
    refine wp_tk rfl (by decide) hw (by omega) ?_
    walk_at "do"
    refine ⟨by omega, by omega, fun u es u0 u1 hw => ?_⟩
    dsimp only [List.set]
    walk_at "to"
    refine wp_O rfl ?_
    walk_at "go"
    walk_at "ex"
    refine wp_O rfl ?_
    refine wp_forN (fun rest r => (∀ d ∈ rest, ∃ n : Nat, d = .int n ∧ 2 ≤ n ∧ n ≤ 9) ∧ ∃ es e3 e6 e7 e8 e9, Well (10 + 3000 * (3 - rest.length : Nat)) es ∧ rest.length ≤ 3 ∧ r = [.val (.scr (ns.map .int)), .val (.int i), .cel .own es, e3, .no, .no, e6, e7, e8, e9]) ?_ _ _ ?_ ?_
    · rintro d rest' r ⟨hd', es, e3, e6, e7, e8, e9, hw, hlen, rfl⟩
      obtain ⟨n, rfl, n2, n9⟩ := hd' d (List.mem_cons_self ..)
      rw [List.length_cons] at hw hlen
      walk_at "do"
      refine wp_io1 rfl (by decide) ?_
      walk_at "do"
      refine f_lb hw (by omega) n2 n9 fun es bs hn hb hw => ⟨es, rfl, ?_⟩
      dsimp only [List.set]
      have hr : rightB (.tup bs) = true := (Bool.and_eq_true_iff.mp hb).1
      simp only [rightB, Bool.and_eq_true, decide_eq_true_eq] at hr
      have hp : ∀ p ∈ bs, pairB p = true := List.all_eq_true.mp hr.2
      walk_at "do"
      refine wp_io1 rfl (by decide) ?_
      walk_at "do"
      refine f_runin hw (by omega) hr.1.2 hp fun es rs hin hw => ⟨es, rfl, ?_⟩
      dsimp only [List.set]
      walk_at "do"
      refine wp_io1 rfl (by decide) ?_
      walk_at "do"
      refine f_anyrun hw (by omega) n9 fun es as la ra hw => ⟨es, rfl, ?_⟩
      dsimp only [List.set]
      walk_at "do"
      refine wp_tk rfl (by decide) hw (by omega) ?_
      walk_at "do"
      refine ⟨by omega, by omega, fun v es v0 v1 hw => ?_⟩
      dsimp only [List.set]
      obtain ⟨run, er, lr, rr⟩ : ∃ l, ixD (.tup [.tup rs, .tup as]) (.int v) = some (.tup l) ∧ l.length = n ∧ Runs l := by
        rcases (by omega : v = 0 ∨ v = 1) with rfl | rfl
        · exact ⟨rs, rfl, by rw [hin.1, hn], ins_runs hp hin⟩
        · exact ⟨as, rfl, la, ra⟩
      refine wp_O er ?_
      walk_at "do"
      refine wp_io1 rfl (by decide) ?_
      walk_at "do"
      refine f_near hw (by omega) n2 n9 lr rr fun es vs hw hvl hv => ⟨es, rfl, ?_⟩
      dsimp only [List.set]
      refine wp_O rfl ?_
      generalize hB : (10 + 3000 * ((3 - (rest'.length + 1) : Nat) : Int)) = B at hw
      have hB2 : B ≤ 10000 := by omega
      refine wp_forN (fun rest2 r => (∀ v ∈ rest2, good3 v = true ∧ sm3 v = true) ∧ ∃ es e8 e9, Well (B + 300 + 2 * (200 - rest2.length : Nat)) es ∧ rest2.length ≤ 200 ∧ r = [.val (.scr (ns.map .int)), .val (.int i), .cel .own es, .val (.int n), .no, .no, .val (.tup bs), .val (.tup run), e8, e9]) ?_ _ _ ⟨hv, _, _, _, well_up hw (by omega), hvl, rfl⟩ ?_
      · rintro v rest2 r ⟨hv, es, e8, e9, hw, hl2, rfl⟩
        rw [List.length_cons] at hw hl2
        obtain ⟨hg, hs⟩ := hv v (List.mem_cons_self ..)
        have hT : ty3 v := ty3_of hg
        have tail : Wp (sIf (tNotM (mTru (callD 2 F__law_says (dCons (xIf (mT (x2 eqD (callI 2 0 [0, 1, 2, 3, 4, 5, 6, 7, 8, 9] F__law_take (aLate 2 (aVal (xC (.int 2)) (mP [])))) (xC (.int 1)))) (callKw 1 1 [0] F_is_run (dCons (xVar 8) (mP []))) (callD 1 F_is_run (dCons (xVar 8) (mP [])))) (dCons (xVar 9) (mP [])))))) (sRet (xC (.bl false))) (mP .nx))
            [.val (.scr (ns.map .int)), .val (.int i), .cel .own es, .val (.int n), .no, .no, .val (.tup bs), .val (.tup run), .val v, .val (.bl (runB v))] fun fl r2 => (fl = Fl.nx ∨ fl = Fl.co) ∧ (∀ v ∈ rest2, good3 v = true ∧ sm3 v = true) ∧ ∃ es e8 e9, Well (B + 300 + 2 * (200 - rest2.length : Nat)) es ∧ rest2.length ≤ 200 ∧ r2 = [.val (.scr (ns.map .int)), .val (.int i), .cel .own es, .val (.int n), .no, .no, .val (.tup bs), .val (.tup run), e8, e9] := by
          walk_at "do"
          refine wp_callD ?_
          walk_at "do"
          refine wp_tk rfl (by decide) hw (by omega) ?_
          walk_at "do"
          refine ⟨by omega, by omega, fun t es t0 t1 hw => ?_⟩
          dsimp only [List.set]
          walk_at "do"
          refine br_d (fun g => ?_) (fun g => ?_)
          · walk_at "do"
            refine wp_callKw ?_
            walk_at "do"
            refine f_isrun hT ?_
            walk_at "do"
            refine f_says ?_
            rw [show (runB v == runB v) = true from beq_self_eq_true _]
            walk_at "do"
            exact ⟨fun w hw' => hv w (List.mem_cons_of_mem _ hw'), _, _, _, well_up hw (by omega), by omega, rfl⟩
          · walk_at "do"
            refine wp_callD ?_
            walk_at "do"
            refine f_isrun hT ?_
            walk_at "do"
            refine f_says ?_
            rw [show (runB v == runB v) = true from beq_self_eq_true _]
            walk_at "do"
            exact ⟨fun w hw' => hv w (List.mem_cons_of_mem _ hw'), _, _, _, well_up hw (by omega), by omega, rfl⟩
        walk_at "do"
        refine wp_O (isB_tup hT.1) ?_
        walk_at "do"
        refine ⟨fun e => ?_, fun e => ?_⟩
        · obtain ⟨l, rfl⟩ : ∃ l, v = .tup l := by cases v <;> first | exact ⟨_, rfl⟩ | (cases e; done)
          walk_at "do"
          refine br_d (fun h1 => ?_) (fun h1 => ?_)
          · walk_at "do"
            refine ⟨fun h2 => ?_, fun h2 => ?_⟩
            · have h2 := of_decide_eq_true h2
              walk_at "do"
              refine wp_callD ?_
              walk_at "do"
              refine f_lrow hT hs (by omega) ?_
              have : runB (.tup l) = l.all fracB := by unfold runB; simp only; rw [decide_eq_true (show 2 ≤ l.length by omega), decide_eq_true (show l.length ≤ 9 by omega)]; rfl
              rw [← this]
              refine ⟨by exact Nat.le_of_ble_eq_true rfl, ?_⟩
              exact fl_nx tail
            · have h3 := of_decide_eq_false h2
              rw [h2]
              have : runB (.tup l) = false := by unfold runB; simp only; rw [decide_eq_false (show ¬ l.length ≤ 9 by omega), Bool.and_false, Bool.false_and]
              refine ⟨by exact Nat.le_of_ble_eq_true rfl, ?_⟩
              rw [this] at tail
              exact fl_nx tail
          · have : runB (.tup l) = false := by unfold runB; simp only; rw [decide_eq_false (show ¬ 2 ≤ l.length by omega), Bool.false_and, Bool.false_and]
            walk_at "ex"
            walk_at "go"
            refine ⟨by exact Nat.le_of_ble_eq_true rfl, ?_⟩
            rw [this] at tail
            exact fl_nx tail
        · have : runB v = isTupD v := by cases v <;> first | rfl | (cases e; done)
          refine ⟨by exact Nat.le_of_ble_eq_true rfl, ?_⟩
          rw [← this]
          exact fl_nx tail
      · rintro r ⟨_, es, e8, e9, hw, _, rfl⟩
        walk_at "do"
        refine wp_io1 rfl (by decide) ?_
        walk_at "do"
        refine f_bright hw (by omega) hb fun es hw => ⟨es, rfl, ?_⟩
        dsimp only [List.set]
        walk_at "do"
        exact ⟨fun d h => hd' d (List.mem_cons_of_mem _ h), _, _, _, _, _, _, well_up hw (by simp only [List.length_nil]; omega), by omega, rfl⟩
    · refine ⟨fun d h => ?_, _, _, _, _, _, _, well_up hw (by omega), by exact Nat.le_of_ble_eq_true rfl, rfl⟩
      rcases List.mem_cons.mp h with rfl | h
      · exact ⟨2, rfl, by omega, by omega⟩
      · rcases List.mem_cons.mp h with rfl | h
        · exact ⟨(3 + t).toNat, by rw [Int.toNat_of_nonneg (by omega)], by omega, by omega⟩
        · rw [List.mem_singleton.mp h]
          exact ⟨(6 + u).toNat, by rw [Int.toNat_of_nonneg (by omega)], by omega, by omega⟩
    · rintro r ⟨_, es, e3, e6, e7, e8, e9, _, _, rfl⟩
      walk_at "do"
      exact ⟨fun d h => hd d (List.mem_cons_of_mem _ h), _, _, _, _, _, _, _, rfl⟩
  · refine ⟨fun d h => ?_, _, _, _, _, _, _, _, rfl⟩
    obtain ⟨i, h1, h3⟩ := rg_mem h
    exact ⟨0 + i, h1, by omega, by omega⟩
  · rintro r ⟨_, e1, e2, e3, e6, e7, e8, e9, rfl⟩
    walk_at "do"
    have sd : ∀ l : List D, l.all (fun d => match d with
        | .tup [.int n, .int m] => decide (n.natAbs < 2 ^ 64) && decide (m.natAbs < 2 ^ 64)
        | _ => false) = true → ∀ h ∈ l, SmD h := fun l h x hx => by
      have := List.all_eq_true.mp h x hx
      split at this
      · rename_i n m
        simp only [Bool.and_eq_true, decide_eq_true_eq] at this
        exact ⟨n, m, rfl, pw9 this.1, pw9 this.2⟩
      · cases this
    refine wp_callD ?_
    walk_at "do"
    refine f_isrun (ty3_of rfl) ?_
    walk_at "do"
    refine wp_callD ?_
    walk_at "do"
    refine f_isrun (ty3_of rfl) ?_
    walk_at "do"
    refine wp_callD ?_
    walk_at "do"
    refine f_within ?_ ?_ ?_ ?_ ?_ ?_ ?_
    · exact ty3_of rfl
    · rfl
    · exact ty3_of rfl
    · rfl
    · rfl
    · exact sd _ rfl
    walk_at "do"
    refine wp_callD ?_
    walk_at "do"
    refine f_within ?_ ?_ ?_ ?_ ?_ ?_ ?_
    · exact ty3_of rfl
    · rfl
    · exact ty3_of rfl
    · rfl
    · rfl
    · exact sd _ rfl
    walk_at "to"
    refine wp_O (a := D.bl true) rfl ?_
    walk_at "do"
    exact .inr ⟨_, rfl, rfl, rfl⟩
theorem plain_law : Plain F_law := fun ns hl _ => (f_law hl).eq
end FL
namespace FL
open PySem PySem.Spec L2
open PyProof.Rows (envOfC)
def topS (i : Nat) : Stmt := PySem.Challenge.pw_levelruns_k06_whole_runs_of_anything_and.main.body.getD i (.Pass ⟨0, 0, 0, 0⟩)
structure Txt (K : PySem.W.Frag) (mg : Str → Option Value) (a_is_fraction_by : Addr) (a_is_pair_by : Addr) : Prop where
  d_is_whole : ∃ f fd, mg "is_whole" = some (.ref f) ∧ Fun K "is_whole" "is_whole" (topS 2) f fd ∧ Binds K fd ["value"] []
  d_is_between : ∃ f fd, mg "is_between" = some (.ref f) ∧ Fun K "is_between" "is_between" (topS 3) f fd ∧ Binds K fd ["value", "low", "high"] []
  d_is_tuple_of : ∃ f fd, mg "is_tuple_of" = some (.ref f) ∧ Fun K "is_tuple_of" "is_tuple_of" (topS 4) f fd ∧ Binds K fd ["value", "many"] []
  d_first_wrong : ∃ f fd, mg "first_wrong" = some (.ref f) ∧ Fun K "first_wrong" "first_wrong" (topS 5) f fd ∧ Binds K fd ["value", "fewest", "most", "is_right"] []
  d_is_fraction_by : ∃ f fd, mg "is_fraction_by" = some (.ref f) ∧ Fun K "is_fraction_by" "is_fraction_by" (topS 6) f fd ∧ Binds K fd ["value"] []
  d_whole : ∃ f fd, mg "whole" = some (.ref f) ∧ Fun K "whole" "whole" (topS 7) f fd ∧ Binds K fd ["number"] []
  d_is_less : ∃ f fd, mg "is_less" = some (.ref f) ∧ Fun K "is_less" "is_less" (topS 8) f fd ∧ Binds K fd ["one", "two"] []
  d_is_pair_by : ∃ f fd, mg "is_pair_by" = some (.ref f) ∧ Fun K "is_pair_by" "is_pair_by" (topS 15) f fd ∧ Binds K fd ["value"] []
  d_are_bounds_by : ∃ f fd, mg "are_bounds_by" = some (.ref f) ∧ Fun K "are_bounds_by" "are_bounds_by" (topS 16) f fd ∧ Binds K fd ["value"] []
  d_is_run_by : ∃ f fd, mg "is_run_by" = some (.ref f) ∧ Fun K "is_run_by" "is_run_by" (topS 17) f fd ∧ Binds K fd ["value"] []
  d_is_height_within : ∃ f fd, mg "is_height_within" = some (.ref f) ∧ Fun K "is_height_within" "is_height_within" (topS 18) f fd ∧ Binds K fd ["pair", "height"] []
  d_first_without : ∃ f fd, mg "first_without" = some (.ref f) ∧ Fun K "first_without" "first_without" (topS 19) f fd ∧ Binds K fd ["bounds", "run"] []
  d_check_bounds : ∃ f fd, mg "check_bounds" = some (.ref f) ∧ Fun K "check_bounds" "check_bounds" (topS 25) f fd ∧ Binds K fd ["value"] []
  d_check_run : ∃ f fd, mg "check_run" = some (.ref f) ∧ Fun K "check_run" "check_run" (topS 26) f fd ∧ Binds K fd ["value"] []
  d_check_run_of : ∃ f fd, mg "check_run_of" = some (.ref f) ∧ Fun K "check_run_of" "check_run_of" (topS 27) f fd ∧ Binds K fd ["bounds", "run"] []
  d_is_run : ∃ f fd, mg "is_run" = some (.ref f) ∧ Fun K "is_run" "is_run" (topS 29) f fd ∧ Binds K fd ["value"] []
  d_is_within : ∃ f fd, mg "is_within" = some (.ref f) ∧ Fun K "is_within" "is_within" (topS 30) f fd ∧ Binds K fd ["bounds", "run"] []
  d__law_well : ∃ f fd, mg "_law_well" = some (.ref f) ∧ Fun K "_law_well" "_law_well" (topS 32) f fd ∧ Binds K fd ["script", "lap"] []
  d__law_take : ∃ f fd, mg "_law_take" = some (.ref f) ∧ Fun K "_law_take" "_law_take" (topS 33) f fd ∧ Binds K fd ["well", "many"] []
  d__law_says : ∃ f fd, mg "_law_says" = some (.ref f) ∧ Fun K "_law_says" "_law_says" (topS 34) f fd ∧ Binds K fd ["told", "due"] []
  d__law_whole : ∃ f fd, mg "_law_whole" = some (.ref f) ∧ Fun K "_law_whole" "_law_whole" (topS 35) f fd ∧ Binds K fd ["value"] []
  d__law_common : ∃ f fd, mg "_law_common" = some (.ref f) ∧ Fun K "_law_common" "_law_common" (topS 36) f fd ∧ Binds K fd ["one", "two"] []
  d__law_part : ∃ f fd, mg "_law_part" = some (.ref f) ∧ Fun K "_law_part" "_law_part" (topS 37) f fd ∧ Binds K fd ["upper", "low"] []
  d__law_plus : ∃ f fd, mg "_law_plus" = some (.ref f) ∧ Fun K "_law_plus" "_law_plus" (topS 38) f fd ∧ Binds K fd ["one", "two"] []
  d__law_minus : ∃ f fd, mg "_law_minus" = some (.ref f) ∧ Fun K "_law_minus" "_law_minus" (topS 39) f fd ∧ Binds K fd ["one", "two"] []
  d__law_times : ∃ f fd, mg "_law_times" = some (.ref f) ∧ Fun K "_law_times" "_law_times" (topS 40) f fd ∧ Binds K fd ["one", "two"] []
  d__law_put : ∃ f fd, mg "_law_put" = some (.ref f) ∧ Fun K "_law_put" "_law_put" (topS 41) f fd ∧ Binds K fd ["row", "at", "value"] []
  d__law_less : ∃ f fd, mg "_law_less" = some (.ref f) ∧ Fun K "_law_less" "_law_less" (topS 42) f fd ∧ Binds K fd ["one", "two"] []
  d__law_is_fraction : ∃ f fd, mg "_law_is_fraction" = some (.ref f) ∧ Fun K "_law_is_fraction" "_law_is_fraction" (topS 43) f fd ∧ Binds K fd ["value"] []
  d__law_is_row : ∃ f fd, mg "_law_is_row" = some (.ref f) ∧ Fun K "_law_is_row" "_law_is_row" (topS 44) f fd ∧ Binds K fd ["value", "many"] []
  d__law_bounds : ∃ f fd, mg "_law_bounds" = some (.ref f) ∧ Fun K "_law_bounds" "_law_bounds" (topS 45) f fd ∧ Binds K fd ["well", "many"] []
  d__law_run_in : ∃ f fd, mg "_law_run_in" = some (.ref f) ∧ Fun K "_law_run_in" "_law_run_in" (topS 46) f fd ∧ Binds K fd ["well", "bounds"] []
  d__law_any_run : ∃ f fd, mg "_law_any_run" = some (.ref f) ∧ Fun K "_law_any_run" "_law_any_run" (topS 47) f fd ∧ Binds K fd ["well", "many"] []
  d__law_outside : ∃ f fd, mg "_law_outside" = some (.ref f) ∧ Fun K "_law_outside" "_law_outside" (topS 48) f fd ∧ Binds K fd ["bounds", "run"] []
  d__law_near : ∃ f fd, mg "_law_near" = some (.ref f) ∧ Fun K "_law_near" "_law_near" (topS 49) f fd ∧ Binds K fd ["well", "run"] []
  d__law_bounds_right : ∃ f fd, mg "_law_bounds_right" = some (.ref f) ∧ Fun K "_law_bounds_right" "_law_bounds_right" (topS 50) f fd ∧ Binds K fd ["well", "bounds"] []
  d_law : ∃ f fd, mg "law" = some (.ref f) ∧ Fun K "law" "law" (topS 51) f fd ∧ Binds K fd ["script"] []
  b_abs : mg "abs" = none
  b_all : mg "all" = none
  b_bool : mg "bool" = none
  b_divmod : mg "divmod" = none
  b_enumerate : mg "enumerate" = none
  b_int : mg "int" = none
  b_isinstance : mg "isinstance" = none
  b_len : mg "len" = none
  b_list : mg "list" = none
  b_max : mg "max" = none
  b_min : mg "min" = none
  b_range : mg "range" = none
  b_str : mg "str" = none
  b_tuple : mg "tuple" = none
  c_FARTHEST : ∃ t, mg "FARTHEST" = some (.int (9999) t)
  c_FEWEST_PLACES : ∃ t, mg "FEWEST_PLACES" = some (.int (2) t)
  c_HIGH : ∃ t, mg "HIGH" = some (.int (1) t)
  c_LOW : ∃ t, mg "LOW" = some (.int (0) t)
  c_MOST_PLACES : ∃ t, mg "MOST_PLACES" = some (.int (9) t)
  g_gcd : mg "gcd" = some (.builtin "math.gcd")
  m_is_fraction_by : mg "is_fraction_by" = some (.ref a_is_fraction_by)
  m_is_pair_by : mg "is_pair_by" = some (.ref a_is_pair_by)
  n_is_fraction_by : PySem.W.nsIn K mainGlobals "is_fraction_by" = some (some (.ref a_is_fraction_by))
  n_is_pair_by : PySem.W.nsIn K mainGlobals "is_pair_by" = some (some (.ref a_is_pair_by))
theorem sc_is_whole : FnScope ["value"] ["value"] (defScope (topS 2)) := ⟨rfl, rfl, rfl, by decide +kernel, rfl, by decide +kernel, by decide +kernel⟩
theorem ok_is_whole {P : Program} {w : World} {K : PySem.W.Frag} {mg : Str → Option Value} {base : Heap} {a_is_fraction_by a_is_pair_by : Addr} (T : Txt K mg a_is_fraction_by a_is_pair_by) : DefOk P w K mg base "is_whole" (topS 2) ["value"] 1 none false F_is_whole :=
  def_ok (k := 0) (io := none) (fr := false) (N := ["value"]) (T := [0]) (b := B_is_whole) T.d_is_whole sc_is_whole fun f cdv A outer s H E hr tk hp =>
  have hN := sc_is_whole.nd
  (ss_one (ss_ret (se_and (se_b call_isi ok_is T.b_isinstance (sd_cons (se_var 0) (sd_cons (se_type T.b_int (by decide +kernel)) sd_nil)) (by decide +kernel)) (se_one (se_not (se_b call_isi ok_is T.b_isinstance (sd_cons (se_var 0) (sd_cons (se_type T.b_bool (by decide +kernel)) sd_nil)) (by decide +kernel)))))))
theorem sc_is_between : FnScope ["value", "low", "high"] ["value", "low", "high"] (defScope (topS 3)) := ⟨rfl, rfl, rfl, by decide +kernel, rfl, by decide +kernel, by decide +kernel⟩
theorem ok_is_between {P : Program} {w : World} {K : PySem.W.Frag} {mg : Str → Option Value} {base : Heap} {a_is_fraction_by a_is_pair_by : Addr} (T : Txt K mg a_is_fraction_by a_is_pair_by)
    (G_is_whole : DefOk P w K mg base "is_whole" (topS 2) ["value"] 1 none false (F_is_whole)) : DefOk P w K mg base "is_between" (topS 3) ["value", "low", "high"] 2 none false F_is_between :=
  def_ok (k := 1) (io := none) (fr := false) (N := ["value", "low", "high"]) (T := [0, 1, 2]) (b := B_is_between) T.d_is_between sc_is_between fun f cdv A outer s H E hr tk hp =>
  have hN := sc_is_between.nd
  (ss_one (ss_ret (se_and (se_call G_is_whole hr tk (sd_cons (se_var 0) sd_nil)) (se_one (se_chain op_le op_le opd_le opd_le (se_var 1) (se_var 0) (se_var 2))))))
theorem sc_is_tuple_of : FnScope ["value", "many"] ["value", "many"] (defScope (topS 4)) := ⟨rfl, rfl, rfl, by decide +kernel, rfl, by decide +kernel, by decide +kernel⟩
theorem ok_is_tuple_of {P : Program} {w : World} {K : PySem.W.Frag} {mg : Str → Option Value} {base : Heap} {a_is_fraction_by a_is_pair_by : Addr} (T : Txt K mg a_is_fraction_by a_is_pair_by) : DefOk P w K mg base "is_tuple_of" (topS 4) ["value", "many"] 1 none false F_is_tuple_of :=
  def_ok (k := 0) (io := none) (fr := false) (N := ["value", "many"]) (T := [0, 1]) (b := B_is_tuple_of) T.d_is_tuple_of sc_is_tuple_of fun f cdv A outer s H E hr tk hp =>
  have hN := sc_is_tuple_of.nd
  (ss_one (ss_ret (se_and (se_b call_isi ok_is T.b_isinstance (sd_cons (se_var 0) (sd_cons (se_type T.b_tuple (by decide +kernel)) sd_nil)) (by decide +kernel)) (se_one (se_eq hr.units (se_b call_len ok_len T.b_len (sd_cons (se_var 0) sd_nil) (by decide +kernel)) (se_var 1))))))
theorem sc_is_fraction_by : FnScope ["value"] ["value"] (defScope (topS 6)) := ⟨rfl, rfl, rfl, by decide +kernel, rfl, by decide +kernel, by decide +kernel⟩
theorem ok_is_fraction_by {P : Program} {w : World} {K : PySem.W.Frag} {mg : Str → Option Value} {base : Heap} {a_is_fraction_by a_is_pair_by : Addr} (T : Txt K mg a_is_fraction_by a_is_pair_by)
    (G_is_tuple_of : DefOk P w K mg base "is_tuple_of" (topS 4) ["value", "many"] 1 none false (F_is_tuple_of))
    (G_is_whole : DefOk P w K mg base "is_whole" (topS 2) ["value"] 1 none false (F_is_whole)) : DefOk P w K mg base "is_fraction_by" (topS 6) ["value"] 2 none false F_is_fraction_by :=
  def_ok (k := 1) (io := none) (fr := false) (N := ["value"]) (T := [0]) (b := B_is_fraction_by) T.d_is_fraction_by sc_is_fraction_by fun f cdv A outer s H E hr tk hp =>
  have hN := sc_is_fraction_by.nd
  (ss_cons (ss_if (SW.pt (sw_or (st_not (st_of (se_call G_is_tuple_of hr tk (sd_cons (se_var 0) (sd_cons se_int sd_nil))))) (sw_or (st_not (st_of (se_call G_is_whole hr tk (sd_cons (se_ix (se_var 0) se_int) sd_nil)))) (sw_or (st_not (st_of (se_call G_is_whole hr tk (sd_cons (se_ix (se_var 0) se_int) sd_nil)))) (sw_or1 (st_le (se_ix (se_var 0) se_int) se_int)))))) (ss_one (ss_ret se_bl)) ss_nil) (ss_one (ss_ret (se_eq hr.units (se_gcd cr_gcd ok_int2 T.g_gcd (sd_cons (se_ix (se_var 0) se_int) (sd_cons (se_ix (se_var 0) se_int) sd_nil))) se_int))))
theorem sc_first_wrong__is_fraction_by : FnScope ["value", "fewest", "most", "is_right", "index", "each"] ["value", "fewest", "most", "is_right"] (defScope (topS 5)) := ⟨rfl, rfl, rfl, by decide +kernel, rfl, by decide +kernel, by decide +kernel⟩
theorem ok_first_wrong__is_fraction_by {P : Program} {w : World} {K : PySem.W.Frag} {mg : Str → Option Value} {base : Heap} {a_is_fraction_by a_is_pair_by : Addr} (T : Txt K mg a_is_fraction_by a_is_pair_by)
    (G_is_fraction_by : DefOk P w K mg base "is_fraction_by" (topS 6) ["value"] 2 none false (F_is_fraction_by)) : DefOk P w K mg base "first_wrong" (topS 5) ["value", "fewest", "most", "is_right"] 3 none false F_first_wrong__is_fraction_by :=
  def_ok (k := 2) (io := none) (fr := false) (N := ["value", "fewest", "most", "is_right", "index", "each"]) (T := [0, 1, 2, 3, 4, 5]) (b := B_first_wrong__is_fraction_by) T.d_first_wrong sc_first_wrong__is_fraction_by fun f cdv A outer s H E hr tk hp =>
  have hN := sc_first_wrong__is_fraction_by.nd
  (ss_cons (ss_if (SW.pt (sw_or (st_not (st_of (se_b call_isi ok_is T.b_isinstance (sd_cons (se_var 0) (sd_cons (se_type T.b_tuple (by decide +kernel)) sd_nil)) (by decide +kernel)))) (sw_or1 (st_not (st_chain op_le op_le opd_le opd_le (se_var 1) (se_b call_len ok_len T.b_len (sd_cons (se_var 0) sd_nil) (by decide +kernel)) (se_var 2)))))) (ss_one (ss_ret (SL.se (el_lst (sd_cons se_non sd_nil))))) ss_nil) (ss_one (ss_ret (se_cut (SL.se (el_comp [("index", 4), ("each", 5)] rfl hN (si_enum T.b_enumerate (sd_cons (se_var 0) sd_nil)) (fun _ _ _ _ _ => (sg_tup rfl (sgs_cons (sg_name 4 hN) (sgs_cons (sg_name 5 hN) sgs_nil)))) (fun _ _ _ _ _ => (sts_one (st_not (st_of (se_callP 3 G_is_fraction_by T.m_is_fraction_by T.n_is_fraction_by hr takes0 (sd_cons (se_var 5) sd_nil)))))) (fun _ _ _ _ _ => (se_var 4)) (blkOk_by (N := ["value", "fewest", "most", "is_right", "index", "each"]) (sc := defScope (topS 5)) (by decide +kernel)))) so_none (so_some se_int)))))
theorem sc_is_pair_by : FnScope ["value"] ["value"] (defScope (topS 15)) := ⟨rfl, rfl, rfl, by decide +kernel, rfl, by decide +kernel, by decide +kernel⟩
theorem ok_is_pair_by {P : Program} {w : World} {K : PySem.W.Frag} {mg : Str → Option Value} {base : Heap} {a_is_fraction_by a_is_pair_by : Addr} (T : Txt K mg a_is_fraction_by a_is_pair_by)
    (G_is_between : DefOk P w K mg base "is_between" (topS 3) ["value", "low", "high"] 2 none false (F_is_between))
    (G_is_tuple_of : DefOk P w K mg base "is_tuple_of" (topS 4) ["value", "many"] 1 none false (F_is_tuple_of)) : DefOk P w K mg base "is_pair_by" (topS 15) ["value"] 3 none false F_is_pair_by :=
  def_ok (k := 2) (io := none) (fr := false) (N := ["value"]) (T := [0]) (b := B_is_pair_by) T.d_is_pair_by sc_is_pair_by fun f cdv A outer s H E hr tk hp =>
  have hN := sc_is_pair_by.nd
  (ss_cons (ss_if (SW.pt (sw_or (st_not (st_of (se_call G_is_tuple_of (hr.mono (by decide)) tk (sd_cons (se_var 0) (sd_cons se_int sd_nil))))) (sw_or1 (st_not (st_of (se_call G_is_between hr tk (sd_cons (se_ix (se_var 0) (se_cint T.c_LOW)) (sd_cons (se_neg (se_cint T.c_FARTHEST)) (sd_cons (se_cint T.c_FARTHEST) sd_nil))))))))) (ss_one (ss_ret se_bl)) ss_nil) (ss_one (ss_ret (se_call G_is_between hr tk (sd_cons (se_ix (se_var 0) (se_cint T.c_HIGH)) (sd_cons (se_ix (se_var 0) (se_cint T.c_LOW)) (sd_cons (se_cint T.c_FARTHEST) sd_nil)))))))
theorem sc_first_wrong__is_pair_by : FnScope ["value", "fewest", "most", "is_right", "index", "each"] ["value", "fewest", "most", "is_right"] (defScope (topS 5)) := ⟨rfl, rfl, rfl, by decide +kernel, rfl, by decide +kernel, by decide +kernel⟩
theorem ok_first_wrong__is_pair_by {P : Program} {w : World} {K : PySem.W.Frag} {mg : Str → Option Value} {base : Heap} {a_is_fraction_by a_is_pair_by : Addr} (T : Txt K mg a_is_fraction_by a_is_pair_by)
    (G_is_pair_by : DefOk P w K mg base "is_pair_by" (topS 15) ["value"] 3 none false (F_is_pair_by)) : DefOk P w K mg base "first_wrong" (topS 5) ["value", "fewest", "most", "is_right"] 4 none false F_first_wrong__is_pair_by :=
  def_ok (k := 3) (io := none) (fr := false) (N := ["value", "fewest", "most", "is_right", "index", "each"]) (T := [0, 1, 2, 3, 4, 5]) (b := B_first_wrong__is_pair_by) T.d_first_wrong sc_first_wrong__is_pair_by fun f cdv A outer s H E hr tk hp =>
  have hN := sc_first_wrong__is_pair_by.nd
  (ss_cons (ss_if (SW.pt (sw_or (st_not (st_of (se_b call_isi ok_is T.b_isinstance (sd_cons (se_var 0) (sd_cons (se_type T.b_tuple (by decide +kernel)) sd_nil)) (by decide +kernel)))) (sw_or1 (st_not (st_chain op_le op_le opd_le opd_le (se_var 1) (se_b call_len ok_len T.b_len (sd_cons (se_var 0) sd_nil) (by decide +kernel)) (se_var 2)))))) (ss_one (ss_ret (SL.se (el_lst (sd_cons se_non sd_nil))))) ss_nil) (ss_one (ss_ret (se_cut (SL.se (el_comp [("index", 4), ("each", 5)] rfl hN (si_enum T.b_enumerate (sd_cons (se_var 0) sd_nil)) (fun _ _ _ _ _ => (sg_tup rfl (sgs_cons (sg_name 4 hN) (sgs_cons (sg_name 5 hN) sgs_nil)))) (fun _ _ _ _ _ => (sts_one (st_not (st_of (se_callP 3 G_is_pair_by T.m_is_pair_by T.n_is_pair_by hr takes0 (sd_cons (se_var 5) sd_nil)))))) (fun _ _ _ _ _ => (se_var 4)) (blkOk_by (N := ["value", "fewest", "most", "is_right", "index", "each"]) (sc := defScope (topS 5)) (by decide +kernel)))) so_none (so_some se_int)))))
theorem sc_whole : FnScope ["number"] ["number"] (defScope (topS 7)) := ⟨rfl, rfl, rfl, by decide +kernel, rfl, by decide +kernel, by decide +kernel⟩
theorem ok_whole {P : Program} {w : World} {K : PySem.W.Frag} {mg : Str → Option Value} {base : Heap} {a_is_fraction_by a_is_pair_by : Addr} (T : Txt K mg a_is_fraction_by a_is_pair_by) : DefOk P w K mg base "whole" (topS 7) ["number"] 1 none false F_whole :=
  def_ok (k := 0) (io := none) (fr := false) (N := ["number"]) (T := [0]) (b := B_whole) T.d_whole sc_whole fun f cdv A outer s H E hr tk hp =>
  have hN := sc_whole.nd
  (ss_one (ss_ret (se_tup (sd_cons (se_var 0) (sd_cons se_int sd_nil)))))
theorem sc_is_less : FnScope ["one", "two"] ["one", "two"] (defScope (topS 8)) := ⟨rfl, rfl, rfl, by decide +kernel, rfl, by decide +kernel, by decide +kernel⟩
theorem ok_is_less {P : Program} {w : World} {K : PySem.W.Frag} {mg : Str → Option Value} {base : Heap} {a_is_fraction_by a_is_pair_by : Addr} (T : Txt K mg a_is_fraction_by a_is_pair_by) : DefOk P w K mg base "is_less" (topS 8) ["one", "two"] 1 none false F_is_less :=
  def_ok (k := 0) (io := none) (fr := false) (N := ["one", "two"]) (T := [0, 1]) (b := B_is_less) T.d_is_less sc_is_less fun f cdv A outer s H E hr tk hp =>
  have hN := sc_is_less.nd
  (ss_one (ss_ret (se_lt (se_mul (se_ix (se_var 0) se_int) (se_ix (se_var 1) se_int)) (se_mul (se_ix (se_var 1) se_int) (se_ix (se_var 0) se_int)))))
theorem sc_are_bounds_by : FnScope ["value"] ["value"] (defScope (topS 16)) := ⟨rfl, rfl, rfl, by decide +kernel, rfl, by decide +kernel, by decide +kernel⟩
theorem ok_are_bounds_by {P : Program} {w : World} {K : PySem.W.Frag} {mg : Str → Option Value} {base : Heap} {a_is_fraction_by a_is_pair_by : Addr} (T : Txt K mg a_is_fraction_by a_is_pair_by)
    (G_first_wrong__is_pair_by : DefOk P w K mg base "first_wrong" (topS 5) ["value", "fewest", "most", "is_right"] 4 none false (F_first_wrong__is_pair_by)) : DefOk P w K mg base "are_bounds_by" (topS 16) ["value"] 5 none false F_are_bounds_by :=
  def_ok (k := 4) (io := none) (fr := false) (N := ["value"]) (T := [0]) (b := B_are_bounds_by) T.d_are_bounds_by sc_are_bounds_by fun f cdv A outer s H E hr tk hp =>
  have hN := sc_are_bounds_by.nd
  (ss_cons (ss_if (st_ne hr.units (se_call G_first_wrong__is_pair_by hr tk (sd_cons (se_var 0) (sd_cons (se_cint T.c_FEWEST_PLACES) (sd_cons (se_cint T.c_MOST_PLACES) (sd_cons (se_def T.m_is_pair_by T.n_is_pair_by) sd_nil))))) (SL.se (el_lst sd_nil))) (ss_one (ss_ret se_bl)) ss_nil) (ss_one (ss_ret (se_and (se_eq hr.units (se_ix (se_ix (se_var 0) se_int) (se_cint T.c_LOW)) (se_ix (se_ix (se_var 0) se_int) (se_cint T.c_HIGH))) (se_one (se_eq hr.units (se_ix (se_ix (se_var 0) (se_neg se_int)) (se_cint T.c_LOW)) (se_ix (se_ix (se_var 0) (se_neg se_int)) (se_cint T.c_HIGH))))))))
theorem sc_is_run_by : FnScope ["value"] ["value"] (defScope (topS 17)) := ⟨rfl, rfl, rfl, by decide +kernel, rfl, by decide +kernel, by decide +kernel⟩
theorem ok_is_run_by {P : Program} {w : World} {K : PySem.W.Frag} {mg : Str → Option Value} {base : Heap} {a_is_fraction_by a_is_pair_by : Addr} (T : Txt K mg a_is_fraction_by a_is_pair_by)
    (G_first_wrong__is_fraction_by : DefOk P w K mg base "first_wrong" (topS 5) ["value", "fewest", "most", "is_right"] 3 none false (F_first_wrong__is_fraction_by)) : DefOk P w K mg base "is_run_by" (topS 17) ["value"] 4 none false F_is_run_by :=
  def_ok (k := 3) (io := none) (fr := false) (N := ["value"]) (T := [0]) (b := B_is_run_by) T.d_is_run_by sc_is_run_by fun f cdv A outer s H E hr tk hp =>
  have hN := sc_is_run_by.nd
  (ss_one (ss_ret (se_eq hr.units (se_call G_first_wrong__is_fraction_by hr tk (sd_cons (se_var 0) (sd_cons (se_cint T.c_FEWEST_PLACES) (sd_cons (se_cint T.c_MOST_PLACES) (sd_cons (se_def T.m_is_fraction_by T.n_is_fraction_by) sd_nil))))) (SL.se (el_lst sd_nil)))))
theorem sc_is_height_within : FnScope ["pair", "height"] ["pair", "height"] (defScope (topS 18)) := ⟨rfl, rfl, rfl, by decide +kernel, rfl, by decide +kernel, by decide +kernel⟩
theorem ok_is_height_within {P : Program} {w : World} {K : PySem.W.Frag} {mg : Str → Option Value} {base : Heap} {a_is_fraction_by a_is_pair_by : Addr} (T : Txt K mg a_is_fraction_by a_is_pair_by)
    (G_is_less : DefOk P w K mg base "is_less" (topS 8) ["one", "two"] 1 none false (F_is_less))
    (G_whole : DefOk P w K mg base "whole" (topS 7) ["number"] 1 none false (F_whole)) : DefOk P w K mg base "is_height_within" (topS 18) ["pair", "height"] 2 none false F_is_height_within :=
  def_ok (k := 1) (io := none) (fr := false) (N := ["pair", "height"]) (T := [0, 1]) (b := B_is_height_within) T.d_is_height_within sc_is_height_within fun f cdv A outer s H E hr tk hp =>
  have hN := sc_is_height_within.nd
  (ss_one (ss_ret (se_and (se_not (se_call G_is_less hr tk (sd_cons (se_var 1) (sd_cons (se_call G_whole hr tk (sd_cons (se_ix (se_var 0) (se_cint T.c_LOW)) sd_nil)) sd_nil)))) (se_one (se_not (se_call G_is_less hr tk (sd_cons (se_call G_whole hr tk (sd_cons (se_ix (se_var 0) (se_cint T.c_HIGH)) sd_nil)) (sd_cons (se_var 1) sd_nil))))))))
theorem sc_first_without : FnScope ["bounds", "run", "at", "height"] ["bounds", "run"] (defScope (topS 19)) := ⟨rfl, rfl, rfl, by decide +kernel, rfl, by decide +kernel, by decide +kernel⟩
theorem ok_first_without {P : Program} {w : World} {K : PySem.W.Frag} {mg : Str → Option Value} {base : Heap} {a_is_fraction_by a_is_pair_by : Addr} (T : Txt K mg a_is_fraction_by a_is_pair_by)
    (G_is_height_within : DefOk P w K mg base "is_height_within" (topS 18) ["pair", "height"] 2 none false (F_is_height_within)) : DefOk P w K mg base "first_without" (topS 19) ["bounds", "run"] 3 none false F_first_without :=
  def_ok (k := 2) (io := none) (fr := false) (N := ["bounds", "run", "at", "height"]) (T := [0, 1, 2, 3]) (b := B_first_without) T.d_first_without sc_first_without fun f cdv A outer s H E hr tk hp =>
  have hN := sc_first_without.nd
  (ss_one (ss_ret (se_cut (SL.se (el_comp [("at", 2), ("height", 3)] rfl hN (si_enum T.b_enumerate (sd_cons (se_var 1) sd_nil)) (fun _ _ _ _ _ => (sg_tup rfl (sgs_cons (sg_name 2 hN) (sgs_cons (sg_name 3 hN) sgs_nil)))) (fun _ _ _ _ _ => (sts_one (st_not (st_of (se_call G_is_height_within hr takes0 (sd_cons (se_ix (se_var 0) (se_var 2)) (sd_cons (se_var 3) sd_nil))))))) (fun _ _ _ _ _ => (se_var 2)) (blkOk_by (N := ["bounds", "run", "at", "height"]) (sc := defScope (topS 19)) (by decide +kernel)))) so_none (so_some se_int))))
theorem sc_check_bounds : FnScope ["value"] ["value"] (defScope (topS 25)) := ⟨rfl, rfl, rfl, by decide +kernel, rfl, by decide +kernel, by decide +kernel⟩
theorem ok_check_bounds {P : Program} {w : World} {K : PySem.W.Frag} {mg : Str → Option Value} {base : Heap} {a_is_fraction_by a_is_pair_by : Addr} (T : Txt K mg a_is_fraction_by a_is_pair_by)
    (G_are_bounds_by : DefOk P w K mg base "are_bounds_by" (topS 16) ["value"] 5 none false (F_are_bounds_by)) : DefOk P w K mg base "check_bounds" (topS 25) ["value"] 6 none false F_check_bounds :=
  def_ok (k := 5) (io := none) (fr := false) (N := ["value"]) (T := [0]) (b := B_check_bounds) T.d_check_bounds sc_check_bounds fun f cdv A outer s H E hr tk hp =>
  have hN := sc_check_bounds.nd
  (ss_one (ss_if (st_not (st_of (se_call G_are_bounds_by hr tk (sd_cons (se_var 0) sd_nil)))) (ss_one ss_bad) ss_nil))
theorem sc_check_run : FnScope ["value"] ["value"] (defScope (topS 26)) := ⟨rfl, rfl, rfl, by decide +kernel, rfl, by decide +kernel, by decide +kernel⟩
theorem ok_check_run {P : Program} {w : World} {K : PySem.W.Frag} {mg : Str → Option Value} {base : Heap} {a_is_fraction_by a_is_pair_by : Addr} (T : Txt K mg a_is_fraction_by a_is_pair_by)
    (G_is_run_by : DefOk P w K mg base "is_run_by" (topS 17) ["value"] 4 none false (F_is_run_by)) : DefOk P w K mg base "check_run" (topS 26) ["value"] 5 none false F_check_run :=
  def_ok (k := 4) (io := none) (fr := false) (N := ["value"]) (T := [0]) (b := B_check_run) T.d_check_run sc_check_run fun f cdv A outer s H E hr tk hp =>
  have hN := sc_check_run.nd
  (ss_one (ss_if (st_not (st_of (se_call G_is_run_by hr tk (sd_cons (se_var 0) sd_nil)))) (ss_one ss_bad) ss_nil))
theorem sc_check_run_of : FnScope ["bounds", "run"] ["bounds", "run"] (defScope (topS 27)) := ⟨rfl, rfl, rfl, by decide +kernel, rfl, by decide +kernel, by decide +kernel⟩
theorem ok_check_run_of {P : Program} {w : World} {K : PySem.W.Frag} {mg : Str → Option Value} {base : Heap} {a_is_fraction_by a_is_pair_by : Addr} (T : Txt K mg a_is_fraction_by a_is_pair_by)
    (G_check_bounds : DefOk P w K mg base "check_bounds" (topS 25) ["value"] 6 none false (F_check_bounds))
    (G_check_run : DefOk P w K mg base "check_run" (topS 26) ["value"] 5 none false (F_check_run)) : DefOk P w K mg base "check_run_of" (topS 27) ["bounds", "run"] 7 none false F_check_run_of :=
  def_ok (k := 6) (io := none) (fr := false) (N := ["bounds", "run"]) (T := [0, 1]) (b := B_check_run_of) T.d_check_run_of sc_check_run_of fun f cdv A outer s H E hr tk hp =>
  have hN := sc_check_run_of.nd
  (ss_cons (ss_expr (se_call G_check_bounds hr tk (sd_cons (se_var 0) sd_nil))) (ss_cons (ss_expr (se_call G_check_run (hr.mono (by decide)) tk (sd_cons (se_var 1) sd_nil))) (ss_one (ss_if (st_ne hr.units (se_b call_len ok_len T.b_len (sd_cons (se_var 1) sd_nil) (by decide +kernel)) (se_b call_len ok_len T.b_len (sd_cons (se_var 0) sd_nil) (by decide +kernel))) (ss_one ss_bad) ss_nil))))
theorem sc_is_run : FnScope ["value"] ["value"] (defScope (topS 29)) := ⟨rfl, rfl, rfl, by decide +kernel, rfl, by decide +kernel, by decide +kernel⟩
theorem ok_is_run {P : Program} {w : World} {K : PySem.W.Frag} {mg : Str → Option Value} {base : Heap} {a_is_fraction_by a_is_pair_by : Addr} (T : Txt K mg a_is_fraction_by a_is_pair_by)
    (G_is_run_by : DefOk P w K mg base "is_run_by" (topS 17) ["value"] 4 none false (F_is_run_by)) : DefOk P w K mg base "is_run" (topS 29) ["value"] 5 none false F_is_run :=
  def_ok (k := 4) (io := none) (fr := false) (N := ["value"]) (T := [0]) (b := B_is_run) T.d_is_run sc_is_run fun f cdv A outer s H E hr tk hp =>
  have hN := sc_is_run.nd
  (ss_one (ss_ret (se_call G_is_run_by hr tk (sd_cons (se_var 0) sd_nil))))
theorem sc_is_within : FnScope ["bounds", "run"] ["bounds", "run"] (defScope (topS 30)) := ⟨rfl, rfl, rfl, by decide +kernel, rfl, by decide +kernel, by decide +kernel⟩
theorem ok_is_within {P : Program} {w : World} {K : PySem.W.Frag} {mg : Str → Option Value} {base : Heap} {a_is_fraction_by a_is_pair_by : Addr} (T : Txt K mg a_is_fraction_by a_is_pair_by)
    (G_check_run_of : DefOk P w K mg base "check_run_of" (topS 27) ["bounds", "run"] 7 none false (F_check_run_of))
    (G_first_without : DefOk P w K mg base "first_without" (topS 19) ["bounds", "run"] 3 none false (F_first_without)) : DefOk P w K mg base "is_within" (topS 30) ["bounds", "run"] 8 none false F_is_within :=
  def_ok (k := 7) (io := none) (fr := false) (N := ["bounds", "run"]) (T := [0, 1]) (b := B_is_within) T.d_is_within sc_is_within fun f cdv A outer s H E hr tk hp =>
  have hN := sc_is_within.nd
  (ss_cons (ss_expr (se_call G_check_run_of hr tk (sd_cons (se_var 0) (sd_cons (se_var 1) sd_nil)))) (ss_one (ss_ret (se_eq hr.units (se_call G_first_without (hr.mono (by decide)) tk (sd_cons (se_var 0) (sd_cons (se_var 1) sd_nil))) (SL.se (el_lst sd_nil))))))
theorem sc__law_well : FnScope ["script", "lap", "own", "stir", "each"] ["script", "lap"] (defScope (topS 32)) := ⟨rfl, rfl, rfl, by decide +kernel, rfl, by decide +kernel, by decide +kernel⟩
theorem ok__law_well {P : Program} {w : World} {K : PySem.W.Frag} {mg : Str → Option Value} {base : Heap} {a_is_fraction_by a_is_pair_by : Addr} (T : Txt K mg a_is_fraction_by a_is_pair_by) : DefOk P w K mg base "_law_well" (topS 32) ["script", "lap"] 1 none true F__law_well :=
  def_ok (k := 0) (io := none) (fr := true) (N := ["script", "lap", "own", "stir", "each"]) (T := [0, 1, 2, 3, 4]) (b := B__law_well) T.d__law_well sc__law_well fun f cdv A outer s H E hr tk hp =>
  have hN := sc__law_well.nd
  (ss_cons (ss_set 2 hN (se_if (st_lt (se_var 1) (se_b call_len ok_len T.b_len (sd_cons (se_var 0) sd_nil) (by decide +kernel))) (se_bt call_int1 ok_int T.b_int (sd_cons (se_ix (se_var 0) (se_var 1)) sd_nil) (by decide +kernel)) se_int)) (ss_cons (ss_set 3 hN (se_add se_int (se_mul se_int (se_var 1)))) (ss_cons (ss_for rfl hp (si_row (se_add (se_cut (se_var 0) so_none (so_some se_int)) (SL.se (el_lst (sd_cons (se_var 2) sd_nil))))) (sg_name 4 hN) (ss_one (ss_set 3 hN (se_mod (se_bt call_int1 ok_int T.b_int (sd_cons (se_add (se_add (se_mul (se_var 3) se_int) (se_mod (se_bt call_int1 ok_int T.b_int (sd_cons (se_var 4) sd_nil) (by decide +kernel)) se_int)) se_int) sd_nil) (by decide +kernel)) se_int)))) (ss_one (ss_retL (el_lst (sd_cons (se_if (SW.pt (sw_or (st_lt (se_var 2) se_int) (sw_or1 (st_ge (se_var 2) (se_pow se_int se_int))))) (se_b call_abs ok_int1 T.b_abs (sd_cons (se_var 2) sd_nil) (by decide +kernel)) se_int) (sd_cons (se_var 3) (sd_cons se_int sd_nil)))))))))
theorem sc__law_take : FnScope ["well", "many", "told", "span"] ["well", "many"] (defScope (topS 33)) := ⟨rfl, rfl, rfl, by decide +kernel, rfl, by decide +kernel, by decide +kernel⟩
theorem ok__law_take {P : Program} {w : World} {K : PySem.W.Frag} {mg : Str → Option Value} {base : Heap} {a_is_fraction_by a_is_pair_by : Addr} (T : Txt K mg a_is_fraction_by a_is_pair_by) : DefOk P w K mg base "_law_take" (topS 33) ["well", "many"] 1 (some 0) false F__law_take :=
  def_ok (k := 0) (io := (some 0)) (fr := false) (N := ["well", "many", "told", "span"]) (T := [0, 1, 2, 3]) (b := B__law_take) T.d__law_take sc__law_take fun f cdv A outer s H E hr tk hp =>
  have hN := sc__law_take.nd
  (ss_cons (ss_if (st_gt (se_lend (S := []) 0 (se_ix (se_var 0) se_int)) se_int) (ss_cons (ss_asg (se_b call_divmod ok_dm T.b_divmod (sd_cons (se_lend (S := []) 0 (se_ix (se_var 0) se_int)) (sd_cons (se_var 1) sd_nil)) (by decide +kernel)) (sg_tup rfl (sgs_cons (sg_sub 0 se_int) (sgs_cons (sg_name 2 hN) sgs_nil)))) (ss_one (ss_ret (se_var 2)))) ss_nil) (ss_cons (ss_asg (se_tup (sd_cons se_int (sd_cons se_int sd_nil))) (sg_tup rfl (sgs_cons (sg_name 2 hN) (sgs_cons (sg_name 3 hN) sgs_nil)))) (ss_cons (ss_while 1000 hp (st_lt (se_var 3) (se_mul se_int (se_var 1))) (ss_cons (ss_asg (se_add (se_lend (S := []) 0 (se_ix (se_var 0) se_int)) se_int) (sg_sub 0 se_int)) (ss_cons (ss_asg (se_mod (se_bt call_int1 ok_int T.b_int (sd_cons (se_add (se_add (se_mul (se_lend (S := []) 0 (se_ix (se_var 0) se_int)) se_int) (se_mul (se_lend (S := []) 0 (se_ix (se_var 0) se_int)) se_int)) se_int) sd_nil) (by decide +kernel)) se_int) (sg_sub 0 se_int)) (ss_one (ss_par2 2 3 rfl hN (sd_cons (se_add (se_mul (se_var 2) se_int) (se_mod (se_bt call_int1 ok_int T.b_int (sd_cons (se_div (se_lend (S := []) 0 (se_ix (se_var 0) se_int)) se_int) sd_nil) (by decide +kernel)) se_int)) (sd_cons (se_mul (se_var 3) se_int) sd_nil)) rfl))))) (ss_one (ss_ret (se_mod (se_bt call_int1 ok_int T.b_int (sd_cons (se_var 2) sd_nil) (by decide +kernel)) (se_var 1)))))))
theorem sc__law_says : FnScope ["told", "due"] ["told", "due"] (defScope (topS 34)) := ⟨rfl, rfl, rfl, by decide +kernel, rfl, by decide +kernel, by decide +kernel⟩
theorem ok__law_says {P : Program} {w : World} {K : PySem.W.Frag} {mg : Str → Option Value} {base : Heap} {a_is_fraction_by a_is_pair_by : Addr} (T : Txt K mg a_is_fraction_by a_is_pair_by) : DefOk P w K mg base "_law_says" (topS 34) ["told", "due"] 1 none false F__law_says :=
  def_ok (k := 0) (io := none) (fr := false) (N := ["told", "due"]) (T := [0, 1]) (b := B__law_says) T.d__law_says sc__law_says fun f cdv A outer s H E hr tk hp =>
  have hN := sc__law_says.nd
  (ss_one (ss_ret (se_and (se_b call_isi ok_is T.b_isinstance (sd_cons (se_var 0) (sd_cons (se_type T.b_bool (by decide +kernel)) sd_nil)) (by decide +kernel)) (se_one (se_eq hr.units (se_var 0) (se_var 1))))))
theorem sc__law_whole : FnScope ["value"] ["value"] (defScope (topS 35)) := ⟨rfl, rfl, rfl, by decide +kernel, rfl, by decide +kernel, by decide +kernel⟩
theorem ok__law_whole {P : Program} {w : World} {K : PySem.W.Frag} {mg : Str → Option Value} {base : Heap} {a_is_fraction_by a_is_pair_by : Addr} (T : Txt K mg a_is_fraction_by a_is_pair_by) : DefOk P w K mg base "_law_whole" (topS 35) ["value"] 1 none false F__law_whole :=
  def_ok (k := 0) (io := none) (fr := false) (N := ["value"]) (T := [0]) (b := B__law_whole) T.d__law_whole sc__law_whole fun f cdv A outer s H E hr tk hp =>
  have hN := sc__law_whole.nd
  (ss_one (ss_ret (se_and (se_b call_isi ok_is T.b_isinstance (sd_cons (se_var 0) (sd_cons (se_type T.b_int (by decide +kernel)) sd_nil)) (by decide +kernel)) (se_one (se_not (se_b call_isi ok_is T.b_isinstance (sd_cons (se_var 0) (sd_cons (se_type T.b_bool (by decide +kernel)) sd_nil)) (by decide +kernel)))))))
theorem sc__law_common : FnScope ["one", "two"] ["one", "two"] (defScope (topS 36)) := ⟨rfl, rfl, rfl, by decide +kernel, rfl, by decide +kernel, by decide +kernel⟩
theorem ok__law_common {P : Program} {w : World} {K : PySem.W.Frag} {mg : Str → Option Value} {base : Heap} {a_is_fraction_by a_is_pair_by : Addr} (T : Txt K mg a_is_fraction_by a_is_pair_by) : DefOk P w K mg base "_law_common" (topS 36) ["one", "two"] 1 none false F__law_common :=
  def_ok (k := 0) (io := none) (fr := false) (N := ["one", "two"]) (T := [0, 1]) (b := B__law_common) T.d__law_common sc__law_common fun f cdv A outer s H E hr tk hp =>
  have hN := sc__law_common.nd
  (ss_cons (ss_par2 0 1 rfl hN (sd_cons (se_b call_abs ok_int1 T.b_abs (sd_cons (se_var 0) sd_nil) (by decide +kernel)) (sd_cons (se_b call_abs ok_int1 T.b_abs (sd_cons (se_var 1) sd_nil) (by decide +kernel)) sd_nil)) rfl) (ss_cons (ss_while 1000 hp (st_gt (se_var 1) se_int) (ss_one (ss_par2 0 1 rfl hN (sd_cons (se_var 1) (sd_cons (se_mod (se_bt call_int1 ok_int T.b_int (sd_cons (se_var 0) sd_nil) (by decide +kernel)) (se_var 1)) sd_nil)) rfl))) (ss_one (ss_ret (se_var 0)))))
theorem sc__law_part : FnScope ["upper", "low", "by"] ["upper", "low"] (defScope (topS 37)) := ⟨rfl, rfl, rfl, by decide +kernel, rfl, by decide +kernel, by decide +kernel⟩
theorem ok__law_part {P : Program} {w : World} {K : PySem.W.Frag} {mg : Str → Option Value} {base : Heap} {a_is_fraction_by a_is_pair_by : Addr} (T : Txt K mg a_is_fraction_by a_is_pair_by)
    (G__law_common : DefOk P w K mg base "_law_common" (topS 36) ["one", "two"] 1 none false (F__law_common)) : DefOk P w K mg base "_law_part" (topS 37) ["upper", "low"] 2 none false F__law_part :=
  def_ok (k := 1) (io := none) (fr := false) (N := ["upper", "low", "by"]) (T := [0, 1, 2]) (b := B__law_part) T.d__law_part sc__law_part fun f cdv A outer s H E hr tk hp =>
  have hN := sc__law_part.nd
  (ss_cons (ss_if (st_lt (se_var 1) se_int) (ss_one (ss_par2 0 1 rfl hN (sd_cons (se_neg (se_var 0)) (sd_cons (se_neg (se_var 1)) sd_nil)) rfl)) ss_nil) (ss_cons (ss_set 2 hN (se_call G__law_common hr tk (sd_cons (se_var 0) (sd_cons (se_var 1) sd_nil)))) (ss_one (ss_ret (se_tup (sd_cons (se_div (se_var 0) (se_var 2)) (sd_cons (se_div (se_var 1) (se_var 2)) sd_nil)))))))
theorem sc__law_plus : FnScope ["one", "two"] ["one", "two"] (defScope (topS 38)) := ⟨rfl, rfl, rfl, by decide +kernel, rfl, by decide +kernel, by decide +kernel⟩
theorem ok__law_plus {P : Program} {w : World} {K : PySem.W.Frag} {mg : Str → Option Value} {base : Heap} {a_is_fraction_by a_is_pair_by : Addr} (T : Txt K mg a_is_fraction_by a_is_pair_by)
    (G__law_part : DefOk P w K mg base "_law_part" (topS 37) ["upper", "low"] 2 none false (F__law_part)) : DefOk P w K mg base "_law_plus" (topS 38) ["one", "two"] 3 none false F__law_plus :=
  def_ok (k := 2) (io := none) (fr := false) (N := ["one", "two"]) (T := [0, 1]) (b := B__law_plus) T.d__law_plus sc__law_plus fun f cdv A outer s H E hr tk hp =>
  have hN := sc__law_plus.nd
  (ss_one (ss_ret (se_call G__law_part hr tk (sd_cons (se_add (se_mul (se_ix (se_var 0) se_int) (se_ix (se_var 1) se_int)) (se_mul (se_ix (se_var 1) se_int) (se_ix (se_var 0) se_int))) (sd_cons (se_mul (se_ix (se_var 0) se_int) (se_ix (se_var 1) se_int)) sd_nil)))))
theorem sc__law_minus : FnScope ["one", "two"] ["one", "two"] (defScope (topS 39)) := ⟨rfl, rfl, rfl, by decide +kernel, rfl, by decide +kernel, by decide +kernel⟩
theorem ok__law_minus {P : Program} {w : World} {K : PySem.W.Frag} {mg : Str → Option Value} {base : Heap} {a_is_fraction_by a_is_pair_by : Addr} (T : Txt K mg a_is_fraction_by a_is_pair_by)
    (G__law_part : DefOk P w K mg base "_law_part" (topS 37) ["upper", "low"] 2 none false (F__law_part)) : DefOk P w K mg base "_law_minus" (topS 39) ["one", "two"] 3 none false F__law_minus :=
  def_ok (k := 2) (io := none) (fr := false) (N := ["one", "two"]) (T := [0, 1]) (b := B__law_minus) T.d__law_minus sc__law_minus fun f cdv A outer s H E hr tk hp =>
  have hN := sc__law_minus.nd
  (ss_one (ss_ret (se_call G__law_part hr tk (sd_cons (se_sub (se_mul (se_ix (se_var 0) se_int) (se_ix (se_var 1) se_int)) (se_mul (se_ix (se_var 1) se_int) (se_ix (se_var 0) se_int))) (sd_cons (se_mul (se_ix (se_var 0) se_int) (se_ix (se_var 1) se_int)) sd_nil)))))
theorem sc__law_times : FnScope ["one", "two"] ["one", "two"] (defScope (topS 40)) := ⟨rfl, rfl, rfl, by decide +kernel, rfl, by decide +kernel, by decide +kernel⟩
theorem ok__law_times {P : Program} {w : World} {K : PySem.W.Frag} {mg : Str → Option Value} {base : Heap} {a_is_fraction_by a_is_pair_by : Addr} (T : Txt K mg a_is_fraction_by a_is_pair_by)
    (G__law_part : DefOk P w K mg base "_law_part" (topS 37) ["upper", "low"] 2 none false (F__law_part)) : DefOk P w K mg base "_law_times" (topS 40) ["one", "two"] 3 none false F__law_times :=
  def_ok (k := 2) (io := none) (fr := false) (N := ["one", "two"]) (T := [0, 1]) (b := B__law_times) T.d__law_times sc__law_times fun f cdv A outer s H E hr tk hp =>
  have hN := sc__law_times.nd
  (ss_one (ss_ret (se_call G__law_part hr tk (sd_cons (se_mul (se_ix (se_var 0) se_int) (se_ix (se_var 1) se_int)) (sd_cons (se_mul (se_ix (se_var 0) se_int) (se_ix (se_var 1) se_int)) sd_nil)))))
theorem sc__law_put : FnScope ["row", "at", "value"] ["row", "at", "value"] (defScope (topS 41)) := ⟨rfl, rfl, rfl, by decide +kernel, rfl, by decide +kernel, by decide +kernel⟩
theorem ok__law_put {P : Program} {w : World} {K : PySem.W.Frag} {mg : Str → Option Value} {base : Heap} {a_is_fraction_by a_is_pair_by : Addr} (T : Txt K mg a_is_fraction_by a_is_pair_by) : DefOk P w K mg base "_law_put" (topS 41) ["row", "at", "value"] 1 none false F__law_put :=
  def_ok (k := 0) (io := none) (fr := false) (N := ["row", "at", "value"]) (T := [0, 1, 2]) (b := B__law_put) T.d__law_put sc__law_put fun f cdv A outer s H E hr tk hp =>
  have hN := sc__law_put.nd
  (ss_one (ss_ret (se_add (se_add (se_cut (se_var 0) so_none (so_some (se_var 1))) (se_tup (sd_cons (se_var 2) sd_nil))) (se_cut (se_var 0) (so_some (se_add (se_var 1) se_int)) so_none))))
theorem sc__law_less : FnScope ["one", "two"] ["one", "two"] (defScope (topS 42)) := ⟨rfl, rfl, rfl, by decide +kernel, rfl, by decide +kernel, by decide +kernel⟩
theorem ok__law_less {P : Program} {w : World} {K : PySem.W.Frag} {mg : Str → Option Value} {base : Heap} {a_is_fraction_by a_is_pair_by : Addr} (T : Txt K mg a_is_fraction_by a_is_pair_by) : DefOk P w K mg base "_law_less" (topS 42) ["one", "two"] 1 none false F__law_less :=
  def_ok (k := 0) (io := none) (fr := false) (N := ["one", "two"]) (T := [0, 1]) (b := B__law_less) T.d__law_less sc__law_less fun f cdv A outer s H E hr tk hp =>
  have hN := sc__law_less.nd
  (ss_one (ss_ret (se_lt (se_mul (se_ix (se_var 0) se_int) (se_ix (se_var 1) se_int)) (se_mul (se_ix (se_var 1) se_int) (se_ix (se_var 0) se_int)))))
theorem sc__law_is_fraction : FnScope ["value"] ["value"] (defScope (topS 43)) := ⟨rfl, rfl, rfl, by decide +kernel, rfl, by decide +kernel, by decide +kernel⟩
theorem ok__law_is_fraction {P : Program} {w : World} {K : PySem.W.Frag} {mg : Str → Option Value} {base : Heap} {a_is_fraction_by a_is_pair_by : Addr} (T : Txt K mg a_is_fraction_by a_is_pair_by)
    (G__law_whole : DefOk P w K mg base "_law_whole" (topS 35) ["value"] 1 none false (F__law_whole))
    (G__law_common : DefOk P w K mg base "_law_common" (topS 36) ["one", "two"] 1 none false (F__law_common)) : DefOk P w K mg base "_law_is_fraction" (topS 43) ["value"] 2 none false F__law_is_fraction :=
  def_ok (k := 1) (io := none) (fr := false) (N := ["value"]) (T := [0]) (b := B__law_is_fraction) T.d__law_is_fraction sc__law_is_fraction fun f cdv A outer s H E hr tk hp =>
  have hN := sc__law_is_fraction.nd
  (ss_one (ss_ret (se_and (se_b call_isi ok_is T.b_isinstance (sd_cons (se_var 0) (sd_cons (se_type T.b_tuple (by decide +kernel)) sd_nil)) (by decide +kernel)) (se_and (se_eq hr.units (se_b call_len ok_len T.b_len (sd_cons (se_var 0) sd_nil) (by decide +kernel)) se_int) (se_and (se_call G__law_whole hr tk (sd_cons (se_ix (se_var 0) se_int) sd_nil)) (se_and (se_call G__law_whole hr tk (sd_cons (se_ix (se_var 0) se_int) sd_nil)) (se_and (se_gt (se_ix (se_var 0) se_int) se_int) (se_one (se_eq hr.units (se_call G__law_common hr tk (sd_cons (se_ix (se_var 0) se_int) (sd_cons (se_ix (se_var 0) se_int) sd_nil))) se_int)))))))))
theorem sc__law_is_row : FnScope ["value", "many", "each"] ["value", "many"] (defScope (topS 44)) := ⟨rfl, rfl, rfl, by decide +kernel, rfl, by decide +kernel, by decide +kernel⟩
theorem ok__law_is_row {P : Program} {w : World} {K : PySem.W.Frag} {mg : Str → Option Value} {base : Heap} {a_is_fraction_by a_is_pair_by : Addr} (T : Txt K mg a_is_fraction_by a_is_pair_by)
    (G__law_is_fraction : DefOk P w K mg base "_law_is_fraction" (topS 43) ["value"] 2 none false (F__law_is_fraction)) : DefOk P w K mg base "_law_is_row" (topS 44) ["value", "many"] 3 none false F__law_is_row :=
  def_ok (k := 2) (io := none) (fr := false) (N := ["value", "many", "each"]) (T := [0, 1, 2]) (b := B__law_is_row) T.d__law_is_row sc__law_is_row fun f cdv A outer s H E hr tk hp =>
  have hN := sc__law_is_row.nd
  (ss_one (ss_ret (se_and (se_b call_isi ok_is T.b_isinstance (sd_cons (se_var 0) (sd_cons (se_type T.b_tuple (by decide +kernel)) sd_nil)) (by decide +kernel)) (se_and (se_eq hr.units (se_b call_len ok_len T.b_len (sd_cons (se_var 0) sd_nil) (by decide +kernel)) (se_var 1)) (se_one (se_b (cr_all rfl) ok_all T.b_all (sd_cons (SL.se (el_comp [("each", 2)] rfl hN (si_row (se_var 0)) (fun _ _ _ _ _ => (sg_name 2 hN)) (fun _ _ _ _ _ => sts_nil) (fun _ _ _ _ _ => (se_call G__law_is_fraction hr takes0 (sd_cons (se_var 2) sd_nil))) (blkOk_by (N := ["value", "many", "each"]) (sc := defScope (topS 44)) (by decide +kernel)))) sd_nil) (by decide +kernel)))))))
theorem sc__law_bounds : FnScope ["well", "many", "k", "high", "wide", "kind", "rows", "here", "low", "each", "at"] ["well", "many"] (defScope (topS 45)) := ⟨rfl, rfl, rfl, by decide +kernel, rfl, by decide +kernel, by decide +kernel⟩
theorem ok__law_bounds {P : Program} {w : World} {K : PySem.W.Frag} {mg : Str → Option Value} {base : Heap} {a_is_fraction_by a_is_pair_by : Addr} (T : Txt K mg a_is_fraction_by a_is_pair_by)
    (G__law_take : DefOk P w K mg base "_law_take" (topS 33) ["well", "many"] 1 (some 0) false (F__law_take)) : DefOk P w K mg base "_law_bounds" (topS 45) ["well", "many"] 2 (some 0) false F__law_bounds :=
  def_ok (k := 1) (io := (some 0)) (fr := false) (N := ["well", "many", "k", "high", "wide", "kind", "rows", "here", "low", "each", "at"]) (T := [0, 1, 2, 3, 4, 5, 6, 7, 8, 9, 10]) (b := B__law_bounds) T.d__law_bounds sc__law_bounds fun f cdv A outer s H E hr tk hp =>
  have hN := sc__law_bounds.nd
  (ss_cons (ss_par3 3 4 5 rfl hN (sd_cons (se_ix (se_tup (sd_cons se_int (sd_cons se_int (sd_cons se_int sd_nil)))) (se_callI G__law_take hr tk (sa_late 0 (sa_val se_int sa_nil)))) (sd_cons (se_ix (se_tup (sd_cons se_int (sd_cons se_int (sd_cons se_int sd_nil)))) (se_callI G__law_take hr tk (sa_late 0 (sa_val se_int sa_nil)))) (sd_cons (se_callI G__law_take hr tk (sa_late 0 (sa_val se_int sa_nil))) sd_nil))) rfl) (ss_cons (ss_parN2 6 7 rfl hN (sp_new (el_lst sd_nil) (sp_val (se_sub (se_callI G__law_take hr tk (sa_late 0 (sa_val (se_add (se_mul se_int (se_var 3)) se_int) sa_nil))) (se_var 3)) sp_nil)) rfl) (ss_cons (ss_for rfl hp (si_range1 T.b_range (sd_cons (se_var 1) sd_nil)) (sg_name 2 hN) (ss_cons (ss_set 8 hN (se_if (st_eq hr.units (se_var 5) se_int) (se_var 7) (se_if (st_lt (se_var 5) se_int) (se_sub (se_callI G__law_take hr tk (sa_late 0 (sa_val (se_add (se_mul se_int (se_var 3)) se_int) sa_nil))) (se_var 3)) (se_sub (se_add (se_var 7) (se_callI G__law_take hr tk (sa_late 0 (sa_val se_int sa_nil)))) se_int)))) (ss_cons (ss_set 7 hN (se_if (st_gt (se_var 5) se_int) (se_var 8) (se_var 7))) (ss_one (ss_app 6 (se_tup (sd_cons (se_var 8) (sd_cons (se_add (se_var 8) (se_callI G__law_take hr tk (sa_late 0 (sa_val (se_add (se_var 4) se_int) sa_nil)))) sd_nil)))))))) (ss_cons (ss_for rfl hp (si_row (se_tup (sd_cons se_int (sd_cons (se_sub (se_var 1) se_int) sd_nil)))) (sg_name 2 hN) (ss_cons (ss_set 9 hN (se_ix (se_lend (S := []) 6 (se_ix (se_var 6) (se_var 2))) (se_callI G__law_take hr tk (sa_late 0 (sa_val se_int sa_nil))))) (ss_one (ss_asg (se_tup (sd_cons (se_var 9) (sd_cons (se_var 9) sd_nil))) (sg_sub 6 (se_var 2)))))) (ss_cons (ss_if (SW.pt (sw_and (st_eq hr.units (se_var 5) se_int) (sw_and1 (st_gt (se_var 1) se_int)))) (ss_cons (ss_set 10 hN (se_add se_int (se_callI G__law_take hr tk (sa_late 0 (sa_val (se_sub (se_var 1) se_int) sa_nil))))) (ss_one (ss_asg (se_tup (sd_cons (se_add (se_neg se_int) (se_callI G__law_take hr tk (sa_late 0 (sa_val se_int sa_nil)))) (sd_cons (se_sub se_int (se_callI G__law_take hr tk (sa_late 0 (sa_val se_int sa_nil)))) sd_nil))) (sg_sub 6 (se_var 10))))) ss_nil) (ss_one (ss_ret (se_lend (S := []) 6 (se_bt call_tuple_of ok_tup T.b_tuple (sd_cons (se_var 6) sd_nil) (by decide +kernel))))))))))
theorem sc__law_run_in : FnScope ["well", "bounds", "parts", "found", "kind", "low", "high", "at"] ["well", "bounds"] (defScope (topS 46)) := ⟨rfl, rfl, rfl, by decide +kernel, rfl, by decide +kernel, by decide +kernel⟩
theorem ok__law_run_in {P : Program} {w : World} {K : PySem.W.Frag} {mg : Str → Option Value} {base : Heap} {a_is_fraction_by a_is_pair_by : Addr} (T : Txt K mg a_is_fraction_by a_is_pair_by)
    (G__law_take : DefOk P w K mg base "_law_take" (topS 33) ["well", "many"] 1 (some 0) false (F__law_take))
    (G__law_part : DefOk P w K mg base "_law_part" (topS 37) ["upper", "low"] 2 none false (F__law_part)) : DefOk P w K mg base "_law_run_in" (topS 46) ["well", "bounds"] 3 (some 0) false F__law_run_in :=
  def_ok (k := 2) (io := (some 0)) (fr := false) (N := ["well", "bounds", "parts", "found", "kind", "low", "high", "at"]) (T := [0, 1, 2, 3, 4, 5, 6, 7]) (b := B__law_run_in) T.d__law_run_in sc__law_run_in fun f cdv A outer s H E hr tk hp =>
  have hN := sc__law_run_in.nd
  (ss_cons (ss_parN3 2 3 4 rfl hN (sp_val (se_ix (se_tup (sd_cons se_int (sd_cons se_int (sd_cons se_int (sd_cons se_int sd_nil))))) (se_callI G__law_take (hr.mono (by decide)) tk (sa_late 0 (sa_val se_int sa_nil)))) (sp_new (el_lst sd_nil) (sp_val (se_callI G__law_take (hr.mono (by decide)) tk (sa_late 0 (sa_val se_int sa_nil))) sp_nil))) rfl) (ss_cons (ss_for rfl hp (si_row (se_var 1)) (sg_tup rfl (sgs_cons (sg_name 5 hN) (sgs_cons (sg_name 6 hN) sgs_nil))) (ss_cons (ss_set 7 hN (se_if (st_lt (se_var 4) se_int) (se_callI G__law_take (hr.mono (by decide)) tk (sa_late 0 (sa_val (se_add (se_var 2) se_int) sa_nil))) (se_ix (se_tup (sd_cons se_int (sd_cons (se_var 2) sd_nil))) (se_callI G__law_take (hr.mono (by decide)) tk (sa_late 0 (sa_val se_int sa_nil)))))) (ss_one (ss_app 3 (se_call G__law_part hr tk (sd_cons (se_add (se_mul (se_var 5) (se_var 2)) (se_mul (se_sub (se_var 6) (se_var 5)) (se_var 7))) (sd_cons (se_var 2) sd_nil))))))) (ss_one (ss_ret (se_lend (S := []) 3 (se_bt call_tuple_of ok_tup T.b_tuple (sd_cons (se_var 3) sd_nil) (by decide +kernel)))))))
theorem sc__law_any_run : FnScope ["well", "many", "k"] ["well", "many"] (defScope (topS 47)) := ⟨rfl, rfl, rfl, by decide +kernel, rfl, by decide +kernel, by decide +kernel⟩
theorem ok__law_any_run {P : Program} {w : World} {K : PySem.W.Frag} {mg : Str → Option Value} {base : Heap} {a_is_fraction_by a_is_pair_by : Addr} (T : Txt K mg a_is_fraction_by a_is_pair_by)
    (G__law_part : DefOk P w K mg base "_law_part" (topS 37) ["upper", "low"] 2 none false (F__law_part))
    (G__law_take : DefOk P w K mg base "_law_take" (topS 33) ["well", "many"] 1 (some 0) false (F__law_take)) : DefOk P w K mg base "_law_any_run" (topS 47) ["well", "many"] 3 (some 0) false F__law_any_run :=
  def_ok (k := 2) (io := (some 0)) (fr := false) (N := ["well", "many", "k"]) (T := [0, 1, 2]) (b := B__law_any_run) T.d__law_any_run sc__law_any_run fun f cdv A outer s H E hr tk hp =>
  have hN := sc__law_any_run.nd
  (ss_one (ss_ret (se_bt call_tuple_of ok_tup T.b_tuple (sd_cons (SL.se (el_comp [("k", 2)] rfl hN (si_range1 T.b_range (sd_cons (se_var 1) sd_nil)) (fun _ _ _ _ _ => (sg_name 2 hN)) (fun _ _ _ _ _ => sts_nil) (fun _ _ _ _ _ => (se_call G__law_part hr takes0 (sd_cons (se_sub (se_callI G__law_take (hr.mono (by decide)) takes0 (sa_late 0 (sa_val se_int sa_nil))) se_int) (sd_cons (se_add se_int (se_callI G__law_take (hr.mono (by decide)) takes0 (sa_late 0 (sa_val se_int sa_nil)))) sd_nil)))) (blkOk_by (N := ["well", "many", "k"]) (sc := defScope (topS 47)) (by decide +kernel)))) sd_nil) (by decide +kernel))))
theorem sc__law_outside : FnScope ["bounds", "run", "k"] ["bounds", "run"] (defScope (topS 48)) := ⟨rfl, rfl, rfl, by decide +kernel, rfl, by decide +kernel, by decide +kernel⟩
theorem ok__law_outside {P : Program} {w : World} {K : PySem.W.Frag} {mg : Str → Option Value} {base : Heap} {a_is_fraction_by a_is_pair_by : Addr} (T : Txt K mg a_is_fraction_by a_is_pair_by)
    (G__law_less : DefOk P w K mg base "_law_less" (topS 42) ["one", "two"] 1 none false (F__law_less)) : DefOk P w K mg base "_law_outside" (topS 48) ["bounds", "run"] 2 none false F__law_outside :=
  def_ok (k := 1) (io := none) (fr := false) (N := ["bounds", "run", "k"]) (T := [0, 1, 2]) (b := B__law_outside) T.d__law_outside sc__law_outside fun f cdv A outer s H E hr tk hp =>
  have hN := sc__law_outside.nd
  (ss_cons (ss_for rfl hp (si_range1 T.b_range (sd_cons (se_b call_len ok_len T.b_len (sd_cons (se_var 1) sd_nil) (by decide +kernel)) sd_nil)) (sg_name 2 hN) (ss_one (ss_if (SW.pt (sw_or (st_of (se_call G__law_less hr tk (sd_cons (se_ix (se_var 1) (se_var 2)) (sd_cons (se_tup (sd_cons (se_ix (se_ix (se_var 0) (se_var 2)) se_int) (sd_cons se_int sd_nil))) sd_nil)))) (sw_or1 (st_of (se_call G__law_less hr tk (sd_cons (se_tup (sd_cons (se_ix (se_ix (se_var 0) (se_var 2)) se_int) (sd_cons se_int sd_nil))) (sd_cons (se_ix (se_var 1) (se_var 2)) sd_nil))))))) (ss_one (ss_ret (se_var 2))) ss_nil))) (ss_one (ss_ret se_non)))
theorem sc__law_near : FnScope ["well", "run", "at", "found", "bad", "n", "m", "each"] ["well", "run"] (defScope (topS 49)) := ⟨rfl, rfl, rfl, by decide +kernel, rfl, by decide +kernel, by decide +kernel⟩
theorem ok__law_near {P : Program} {w : World} {K : PySem.W.Frag} {mg : Str → Option Value} {base : Heap} {a_is_fraction_by a_is_pair_by : Addr} (T : Txt K mg a_is_fraction_by a_is_pair_by)
    (G__law_take : DefOk P w K mg base "_law_take" (topS 33) ["well", "many"] 1 (some 0) false (F__law_take)) : DefOk P w K mg base "_law_near" (topS 49) ["well", "run"] 2 (some 0) false F__law_near :=
  def_ok (k := 1) (io := (some 0)) (fr := false) (N := ["well", "run", "at", "found", "bad", "n", "m", "each"]) (T := [0, 1, 2, 3, 4, 5, 6, 7]) (b := B__law_near) T.d__law_near sc__law_near fun f cdv A outer s H E hr tk hp =>
  have hN := sc__law_near.nd
  (ss_cons (ss_set 2 hN (se_callI G__law_take hr tk (sa_late 0 (sa_val (se_b call_len ok_len T.b_len (sd_cons (se_var 1) sd_nil) (by decide +kernel)) sa_nil)))) (ss_cons (ss_asg (se_ix (se_var 1) (se_var 2)) (sg_tup rfl (sgs_cons (sg_name 5 hN) (sgs_cons (sg_name 6 hN) sgs_nil)))) (ss_cons (ss_set 3 hN (SL.se (el_lst (sd_cons (se_var 1) (sd_cons (SL.se (el_list T.b_list (sd_cons (se_var 1) sd_nil) (by decide +kernel))) (sd_cons (se_rev (se_var 1)) (sd_cons (se_cut (se_var 1) (so_some se_int) so_none) (sd_cons (se_add (se_var 1) (se_var 1)) (sd_cons (se_add (se_var 1) (se_cut (se_var 1) so_none (so_some se_int))) (sd_cons (se_cut (se_var 1) so_none (so_some se_int)) (sd_cons (se_tup (sd_cons (se_var 1) sd_nil)) (sd_cons (se_ix (se_var 1) se_int) (sd_cons se_non (sd_cons (se_tup sd_nil) (sd_cons se_int (sd_cons se_str (sd_cons se_dict0 (sd_cons se_bl (sd_cons (se_mul (se_tup (sd_cons (se_ix (se_var 1) se_int) sd_nil)) se_int) (sd_cons (se_mul (se_tup (sd_cons (se_ix (se_var 1) se_int) sd_nil)) se_int) sd_nil)))))))))))))))))))) (ss_cons (ss_set 4 hN (SL.se (el_lst (sd_cons (se_tup (sd_cons (se_mul se_int (se_var 5)) (sd_cons (se_mul se_int (se_var 6)) sd_nil))) (sd_cons (se_tup (sd_cons (se_var 5) (sd_cons (se_neg (se_var 6)) sd_nil))) (sd_cons (se_tup (sd_cons (se_neg (se_var 5)) (sd_cons (se_var 6) sd_nil))) (sd_cons (se_tup (sd_cons (se_neg (se_var 5)) (sd_cons (se_neg (se_var 6)) sd_nil))) (sd_cons (se_tup (sd_cons se_int (sd_cons (se_var 6) sd_nil))) (sd_cons (se_tup (sd_cons se_int (sd_cons se_int sd_nil))) (sd_cons (se_tup (sd_cons (se_var 5) (sd_cons se_int sd_nil))) (sd_cons (se_tup (sd_cons se_bl (sd_cons se_int sd_nil))) (sd_cons (se_tup (sd_cons (se_var 5) (sd_cons se_bl sd_nil))) (sd_cons (se_tup (sd_cons (se_var 5) (sd_cons se_non sd_nil))) (sd_cons (se_tup (sd_cons (se_bt call_str_int ok_str T.b_str (sd_cons (se_var 5) sd_nil) (by decide +kernel)) (sd_cons (se_var 6) sd_nil))) (sd_cons (SL.se (el_lst (sd_cons (se_var 5) (sd_cons (se_var 6) sd_nil)))) (sd_cons (se_tup (sd_cons (se_var 5) sd_nil)) (sd_cons (se_tup (sd_cons (se_var 5) (sd_cons (se_var 6) (sd_cons se_int sd_nil)))) (sd_cons (se_tup sd_nil) (sd_cons se_non (sd_cons (se_var 5) (sd_cons (se_tup (sd_cons (se_add (se_var 5) (se_var 6)) (sd_cons (se_var 6) sd_nil))) sd_nil))))))))))))))))))))) (ss_cons (ss_set 4 hN (se_add (se_var 4) (SL.se (el_lst (sd_cons (se_tup (sd_cons (se_pow se_int se_int) (sd_cons se_int sd_nil))) (sd_cons (se_tup (sd_cons (se_tup (sd_cons (se_var 5) (sd_cons (se_var 6) sd_nil))) sd_nil)) sd_nil)))))) (ss_one (ss_ret (se_add (se_var 3) (SL.se (el_comp [("each", 7)] rfl hN (si_row (se_var 4)) (fun _ _ _ _ _ => (sg_name 7 hN)) (fun _ _ _ _ _ => sts_nil) (fun _ _ _ _ _ => (se_add (se_add (se_cut (se_var 1) so_none (so_some (se_var 2))) (se_tup (sd_cons (se_var 7) sd_nil))) (se_cut (se_var 1) (so_some (se_add (se_var 2) se_int)) so_none))) (blkOk_by (N := ["well", "run", "at", "found", "bad", "n", "m", "each"]) (sc := defScope (topS 49)) (by decide +kernel))))))))))))
theorem sc__law_bounds_right : FnScope ["well", "bounds", "share", "mixed", "at", "some", "each", "run", "other", "many", "low", "high", "k", "pair"] ["well", "bounds"] (defScope (topS 50)) := ⟨rfl, rfl, rfl, by decide +kernel, rfl, by decide +kernel, by decide +kernel⟩
theorem ok__law_bounds_right {P : Program} {w : World} {K : PySem.W.Frag} {mg : Str → Option Value} {base : Heap} {a_is_fraction_by a_is_pair_by : Addr} (T : Txt K mg a_is_fraction_by a_is_pair_by)
    (G__law_part : DefOk P w K mg base "_law_part" (topS 37) ["upper", "low"] 2 none false (F__law_part))
    (G__law_take : DefOk P w K mg base "_law_take" (topS 33) ["well", "many"] 1 (some 0) false (F__law_take))
    (G__law_run_in : DefOk P w K mg base "_law_run_in" (topS 46) ["well", "bounds"] 3 (some 0) false (F__law_run_in))
    (G__law_any_run : DefOk P w K mg base "_law_any_run" (topS 47) ["well", "many"] 3 (some 0) false (F__law_any_run))
    (G__law_outside : DefOk P w K mg base "_law_outside" (topS 48) ["bounds", "run"] 2 none false (F__law_outside))
    (G__law_plus : DefOk P w K mg base "_law_plus" (topS 38) ["one", "two"] 3 none false (F__law_plus))
    (G__law_put : DefOk P w K mg base "_law_put" (topS 41) ["row", "at", "value"] 1 none false (F__law_put))
    (G__law_says : DefOk P w K mg base "_law_says" (topS 34) ["told", "due"] 1 none false (F__law_says))
    (G__law_times : DefOk P w K mg base "_law_times" (topS 40) ["one", "two"] 3 none false (F__law_times))
    (G__law_minus : DefOk P w K mg base "_law_minus" (topS 39) ["one", "two"] 3 none false (F__law_minus))
    (G_is_within : DefOk P w K mg base "is_within" (topS 30) ["bounds", "run"] 8 none false (F_is_within)) : DefOk P w K mg base "_law_bounds_right" (topS 50) ["well", "bounds"] 9 (some 0) false F__law_bounds_right :=
  def_ok (k := 8) (io := (some 0)) (fr := false) (N := ["well", "bounds", "share", "mixed", "at", "some", "each", "run", "other", "many", "low", "high", "k", "pair"]) (T := [0, 1, 2, 3, 4, 5, 6, 7, 8, 9, 10, 11, 12, 13]) (b := B__law_bounds_right) T.d__law_bounds_right sc__law_bounds_right fun f cdv A outer s H E hr tk hp =>
  have hN := sc__law_bounds_right.nd
  (ss_cons (ss_asg (se_tup (sd_cons (se_callI G__law_run_in (hr.mono (by decide)) tk (sa_late 0 (sa_val (se_var 1) sa_nil))) (sd_cons (se_callI G__law_run_in (hr.mono (by decide)) tk (sa_late 0 (sa_val (se_var 1) sa_nil))) (sd_cons (se_b call_len ok_len T.b_len (sd_cons (se_var 1) sd_nil) (by decide +kernel)) sd_nil)))) (sg_tup rfl (sgs_cons (sg_name 7 hN) (sgs_cons (sg_name 8 hN) (sgs_cons (sg_name 9 hN) sgs_nil))))) (ss_cons (ss_set 2 hN (se_call G__law_part (hr.mono (by decide)) tk (sd_cons (se_callI G__law_take (hr.mono (by decide)) tk (sa_late 0 (sa_val se_int sa_nil))) (sd_cons se_int sd_nil)))) (ss_cons (ss_set 3 hN (se_bt call_tuple_of ok_tup T.b_tuple (sd_cons (SL.se (el_comp [("k", 12)] rfl hN (si_range1 T.b_range (sd_cons (se_var 9) sd_nil)) (fun _ _ _ _ _ => (sg_name 12 hN)) (fun _ _ _ _ _ => sts_nil) (fun _ _ _ _ _ => (se_call G__law_plus (hr.mono (by decide)) takes0 (sd_cons (se_ix (se_var 7) (se_var 12)) (sd_cons (se_call G__law_times (hr.mono (by decide)) takes0 (sd_cons (se_var 2) (sd_cons (se_call G__law_minus (hr.mono (by decide)) takes0 (sd_cons (se_ix (se_var 8) (se_var 12)) (sd_cons (se_ix (se_var 7) (se_var 12)) sd_nil))) sd_nil))) sd_nil)))) (blkOk_by (N := ["well", "bounds", "share", "mixed", "at", "some", "each", "run", "other", "many", "low", "high", "k", "pair"]) (sc := defScope (topS 50)) (by decide +kernel)))) sd_nil) (by decide +kernel))) (ss_cons (ss_set 4 hN (se_callI G__law_take (hr.mono (by decide)) tk (sa_late 0 (sa_val (se_var 9) sa_nil)))) (ss_cons (ss_asg (se_ix (se_var 1) (se_var 4)) (sg_tup rfl (sgs_cons (sg_name 10 hN) (sgs_cons (sg_name 11 hN) sgs_nil)))) (ss_cons (ss_set 5 hN (SL.se (el_lst (sd_cons (se_var 7) (sd_cons (se_var 8) (sd_cons (se_var 3) (sd_cons (se_callI G__law_any_run (hr.mono (by decide)) tk (sa_late 0 (sa_val (se_var 9) sa_nil))) (sd_cons (se_bt call_tuple_of ok_tup T.b_tuple (sd_cons (SL.se (el_comp [("pair", 13)] rfl hN (si_row (se_var 1)) (fun _ _ _ _ _ => (sg_name 13 hN)) (fun _ _ _ _ _ => sts_nil) (fun _ _ _ _ _ => (se_tup (sd_cons (se_ix (se_var 13) se_int) (sd_cons se_int sd_nil)))) (blkOk_by (N := ["well", "bounds", "share", "mixed", "at", "some", "each", "run", "other", "many", "low", "high", "k", "pair"]) (sc := defScope (topS 50)) (by decide +kernel)))) sd_nil) (by decide +kernel)) (sd_cons (se_bt call_tuple_of ok_tup T.b_tuple (sd_cons (SL.se (el_comp [("pair", 13)] rfl hN (si_row (se_var 1)) (fun _ _ _ _ _ => (sg_name 13 hN)) (fun _ _ _ _ _ => sts_nil) (fun _ _ _ _ _ => (se_tup (sd_cons (se_ix (se_var 13) se_int) (sd_cons se_int sd_nil)))) (blkOk_by (N := ["well", "bounds", "share", "mixed", "at", "some", "each", "run", "other", "many", "low", "high", "k", "pair"]) (sc := defScope (topS 50)) (by decide +kernel)))) sd_nil) (by decide +kernel)) sd_nil))))))))) (ss_cons (ss_set 5 hN (se_add (se_var 5) (SL.se (el_comp [("each", 6)] rfl hN (si_row (se_tup (sd_cons (se_tup (sd_cons (se_var 10) (sd_cons se_int sd_nil))) (sd_cons (se_tup (sd_cons (se_var 11) (sd_cons se_int sd_nil))) (sd_cons (se_tup (sd_cons (se_sub (se_mul se_int (se_var 10)) se_int) (sd_cons se_int sd_nil))) (sd_cons (se_tup (sd_cons (se_add (se_mul se_int (se_var 11)) se_int) (sd_cons se_int sd_nil))) (sd_cons (se_tup (sd_cons (se_sub (se_var 10) se_int) (sd_cons se_int sd_nil))) (sd_cons (se_tup (sd_cons (se_add (se_var 11) se_int) (sd_cons se_int sd_nil))) sd_nil)))))))) (fun _ _ _ _ _ => (sg_name 6 hN)) (fun _ _ _ _ _ => sts_nil) (fun _ _ _ _ _ => (se_call G__law_put (hr.mono (by decide)) takes0 (sd_cons (se_var 7) (sd_cons (se_var 4) (sd_cons (se_var 6) sd_nil))))) (blkOk_by (N := ["well", "bounds", "share", "mixed", "at", "some", "each", "run", "other", "many", "low", "high", "k", "pair"]) (sc := defScope (topS 50)) (by decide +kernel)))))) (ss_cons (ss_for rfl hp (si_row (se_var 5)) (sg_name 6 hN) (ss_one (ss_if (st_not (st_of (se_call G__law_says (hr.mono (by decide)) tk (sd_cons (se_if (st_eq hr.units (se_callI G__law_take (hr.mono (by decide)) tk (sa_late 0 (sa_val se_int sa_nil))) se_int) (se_callKw (ks := ["run", "bounds"]) [1, 0] G_is_within hr tk (sk_cons (se_var 6) (sk_cons (se_var 1) sk_nil)) (fun _ _ _ _ _ _ ws hl => match ws, hl with | [_, _], _ => rfl)) (se_call G_is_within hr tk (sd_cons (se_var 1) (sd_cons (se_var 6) sd_nil)))) (sd_cons (se_isN (se_call G__law_outside (hr.mono (by decide)) tk (sd_cons (se_var 1) (sd_cons (se_var 6) sd_nil))) se_non) sd_nil))))) (ss_one (ss_ret se_bl)) ss_nil))) (ss_one (ss_ret (se_isN (se_call G__law_outside (hr.mono (by decide)) tk (sd_cons (se_var 1) (sd_cons (se_var 3) sd_nil))) se_non)))))))))))
theorem sc_law : FnScope ["script", "lap", "well", "many", "tube", "flat", "bounds", "run", "value", "due"] ["script"] (defScope (topS 51)) := ⟨rfl, rfl, rfl, by decide +kernel, rfl, by decide +kernel, by decide +kernel⟩
theorem ok_law {P : Program} {w : World} {K : PySem.W.Frag} {mg : Str → Option Value} {base : Heap} {a_is_fraction_by a_is_pair_by : Addr} (T : Txt K mg a_is_fraction_by a_is_pair_by)
    (G__law_well : DefOk P w K mg base "_law_well" (topS 32) ["script", "lap"] 1 none true (F__law_well))
    (G__law_bounds : DefOk P w K mg base "_law_bounds" (topS 45) ["well", "many"] 2 (some 0) false (F__law_bounds))
    (G__law_near : DefOk P w K mg base "_law_near" (topS 49) ["well", "run"] 2 (some 0) false (F__law_near))
    (G_is_run : DefOk P w K mg base "is_run" (topS 29) ["value"] 5 none false (F_is_run))
    (G_is_within : DefOk P w K mg base "is_within" (topS 30) ["bounds", "run"] 8 none false (F_is_within))
    (G__law_take : DefOk P w K mg base "_law_take" (topS 33) ["well", "many"] 1 (some 0) false (F__law_take))
    (G__law_bounds_right : DefOk P w K mg base "_law_bounds_right" (topS 50) ["well", "bounds"] 9 (some 0) false (F__law_bounds_right))
    (G__law_run_in : DefOk P w K mg base "_law_run_in" (topS 46) ["well", "bounds"] 3 (some 0) false (F__law_run_in))
    (G__law_any_run : DefOk P w K mg base "_law_any_run" (topS 47) ["well", "many"] 3 (some 0) false (F__law_any_run))
    (G__law_is_row : DefOk P w K mg base "_law_is_row" (topS 44) ["value", "many"] 3 none false (F__law_is_row))
    (G__law_says : DefOk P w K mg base "_law_says" (topS 34) ["told", "due"] 1 none false (F__law_says)) : DefOk P w K mg base "law" (topS 51) ["script"] 10 none false F_law :=
  def_ok (k := 9) (io := none) (fr := false) (N := ["script", "lap", "well", "many", "tube", "flat", "bounds", "run", "value", "due"]) (T := [0, 1, 2, 3, 4, 5, 6, 7, 8, 9]) (b := B_law) T.d_law sc_law fun f cdv A outer s H E hr tk hp =>
  have hN := sc_law.nd
  (ss_cons (ss_for rfl hp (si_range1 T.b_range (sd_cons (se_b (call_max2 rfl) ok_int2 T.b_max (sd_cons se_int (sd_cons (se_b (call_min2 rfl) ok_int2 T.b_min (sd_cons (se_b call_len ok_len T.b_len (sd_cons (se_var 0) sd_nil) (by decide +kernel)) (sd_cons se_int sd_nil)) (by decide +kernel)) sd_nil)) (by decide +kernel)) sd_nil)) (sg_name 1 hN) (ss_cons (ss_setL 2 hN (el_call G__law_well (hr.mono (by decide)) tk (sd_cons (se_var 0) (sd_cons (se_var 1) sd_nil)))) (ss_one (ss_for rfl hp (si_row (se_tup (sd_cons se_int (sd_cons (se_add se_int (se_callI G__law_take (hr.mono (by decide)) tk (sa_late 2 (sa_val se_int sa_nil)))) (sd_cons (se_add se_int (se_callI G__law_take (hr.mono (by decide)) tk (sa_late 2 (sa_val se_int sa_nil)))) sd_nil))))) (sg_name 3 hN) (ss_cons (ss_set 6 hN (se_callI G__law_bounds (hr.mono (by decide)) tk (sa_late 2 (sa_val (se_var 3) sa_nil)))) (ss_cons (ss_set 7 hN (se_ix (se_tup (sd_cons (se_callI G__law_run_in (hr.mono (by decide)) tk (sa_late 2 (sa_val (se_var 6) sa_nil))) (sd_cons (se_callI G__law_any_run (hr.mono (by decide)) tk (sa_late 2 (sa_val (se_var 3) sa_nil))) sd_nil))) (se_callI G__law_take (hr.mono (by decide)) tk (sa_late 2 (sa_val se_int sa_nil))))) (ss_cons (ss_for rfl hp (si_row (se_callI G__law_near (hr.mono (by decide)) tk (sa_late 2 (sa_val (se_var 7) sa_nil)))) (sg_name 8 hN) (ss_cons (ss_set 9 hN (se_and (se_b call_isi ok_is T.b_isinstance (sd_cons (se_var 8) (sd_cons (se_type T.b_tuple (by decide +kernel)) sd_nil)) (by decide +kernel)) (se_and (se_chain op_le op_le opd_le opd_le se_int (se_b call_len ok_len T.b_len (sd_cons (se_var 8) sd_nil) (by decide +kernel)) se_int) (se_one (se_call G__law_is_row (hr.mono (by decide)) tk (sd_cons (se_var 8) (sd_cons (se_b call_len ok_len T.b_len (sd_cons (se_var 8) sd_nil) (by decide +kernel)) sd_nil))))))) (ss_one (ss_if (st_not (st_of (se_call G__law_says (hr.mono (by decide)) tk (sd_cons (se_if (st_eq hr.units (se_callI G__law_take (hr.mono (by decide)) tk (sa_late 2 (sa_val se_int sa_nil))) se_int) (se_callKw (ks := ["value"]) [0] G_is_run (hr.mono (by decide)) tk (sk_cons (se_var 8) sk_nil) (fun _ _ _ _ _ _ ws hl => match ws, hl with | [_], _ => rfl)) (se_call G_is_run (hr.mono (by decide)) tk (sd_cons (se_var 8) sd_nil))) (sd_cons (se_var 9) sd_nil))))) (ss_one (ss_ret se_bl)) ss_nil)))) (ss_one (ss_if (st_not (st_of (se_callI G__law_bounds_right hr tk (sa_late 2 (sa_val (se_var 6) sa_nil))))) (ss_one (ss_ret se_bl)) ss_nil))))))))) (ss_cons (ss_asg (se_tup (sd_cons (se_tup (sd_cons (se_tup (sd_cons se_int (sd_cons se_int sd_nil))) (sd_cons (se_tup (sd_cons se_int (sd_cons se_int sd_nil))) (sd_cons (se_tup (sd_cons se_int (sd_cons se_int sd_nil))) (sd_cons (se_tup (sd_cons se_int (sd_cons se_int sd_nil))) sd_nil))))) (sd_cons (se_tup (sd_cons (se_tup (sd_cons se_int (sd_cons se_int sd_nil))) (sd_cons (se_tup (sd_cons se_int (sd_cons se_int sd_nil))) (sd_cons (se_tup (sd_cons se_int (sd_cons se_int sd_nil))) (sd_cons (se_tup (sd_cons se_int (sd_cons se_int sd_nil))) sd_nil))))) sd_nil))) (sg_tup rfl (sgs_cons (sg_name 4 hN) (sgs_cons (sg_name 5 hN) sgs_nil)))) (ss_one (ss_ret (se_eq hr.units (SL.se (el_lst (sd_cons (se_call G_is_run (hr.mono (by decide)) tk (sd_cons (se_tup (sd_cons (se_tup (sd_cons se_int (sd_cons se_int sd_nil))) sd_nil)) sd_nil)) (sd_cons (se_call G_is_run (hr.mono (by decide)) tk (sd_cons (se_var 5) sd_nil)) (sd_cons (se_call G_is_within (hr.mono (by decide)) tk (sd_cons (se_var 4) (sd_cons (se_var 5) sd_nil))) (sd_cons (se_call G_is_within (hr.mono (by decide)) tk (sd_cons (se_var 4) (sd_cons (se_tup (sd_cons (se_tup (sd_cons se_int (sd_cons se_int sd_nil))) (sd_cons (se_tup (sd_cons se_int (sd_cons se_int sd_nil))) (sd_cons (se_tup (sd_cons se_int (sd_cons se_int sd_nil))) (sd_cons (se_tup (sd_cons se_int (sd_cons se_int sd_nil))) sd_nil))))) sd_nil))) sd_nil)))))) (SL.se (el_lst (sd_cons se_bl (sd_cons se_bl (sd_cons se_bl (sd_cons se_bl sd_nil)))))))))))
theorem ok_every {P : Program} {w : World} {K : PySem.W.Frag} {mg : Str → Option Value} {base : Heap} {a_is_fraction_by : Addr} {a_is_pair_by : Addr} (T : Txt K mg a_is_fraction_by a_is_pair_by) : DefOk P w K mg base "law" (topS 51) ["script"] 10 none false F_law :=
  have G_is_whole := ok_is_whole (P := P) (w := w) (base := base) T
  have G_is_between := ok_is_between (P := P) (w := w) (base := base) T G_is_whole
  have G_is_tuple_of := ok_is_tuple_of (P := P) (w := w) (base := base) T
  have G_is_fraction_by := ok_is_fraction_by (P := P) (w := w) (base := base) T G_is_tuple_of G_is_whole
  have G_first_wrong__is_fraction_by := ok_first_wrong__is_fraction_by (P := P) (w := w) (base := base) T G_is_fraction_by
  have G_is_pair_by := ok_is_pair_by (P := P) (w := w) (base := base) T G_is_between G_is_tuple_of
  have G_first_wrong__is_pair_by := ok_first_wrong__is_pair_by (P := P) (w := w) (base := base) T G_is_pair_by
  have G_whole := ok_whole (P := P) (w := w) (base := base) T
  have G_is_less := ok_is_less (P := P) (w := w) (base := base) T
  have G_are_bounds_by := ok_are_bounds_by (P := P) (w := w) (base := base) T G_first_wrong__is_pair_by
  have G_is_run_by := ok_is_run_by (P := P) (w := w) (base := base) T G_first_wrong__is_fraction_by
  have G_is_height_within := ok_is_height_within (P := P) (w := w) (base := base) T G_is_less G_whole
  have G_first_without := ok_first_without (P := P) (w := w) (base := base) T G_is_height_within
  have G_check_bounds := ok_check_bounds (P := P) (w := w) (base := base) T G_are_bounds_by
  have G_check_run := ok_check_run (P := P) (w := w) (base := base) T G_is_run_by
  have G_check_run_of := ok_check_run_of (P := P) (w := w) (base := base) T G_check_bounds G_check_run
  have G_is_run := ok_is_run (P := P) (w := w) (base := base) T G_is_run_by
  have G_is_within := ok_is_within (P := P) (w := w) (base := base) T G_check_run_of G_first_without
  have G__law_well := ok__law_well (P := P) (w := w) (base := base) T
  have G__law_take := ok__law_take (P := P) (w := w) (base := base) T
  have G__law_says := ok__law_says (P := P) (w := w) (base := base) T
  have G__law_whole := ok__law_whole (P := P) (w := w) (base := base) T
  have G__law_common := ok__law_common (P := P) (w := w) (base := base) T
  have G__law_part := ok__law_part (P := P) (w := w) (base := base) T G__law_common
  have G__law_plus := ok__law_plus (P := P) (w := w) (base := base) T G__law_part
  have G__law_minus := ok__law_minus (P := P) (w := w) (base := base) T G__law_part
  have G__law_times := ok__law_times (P := P) (w := w) (base := base) T G__law_part
  have G__law_put := ok__law_put (P := P) (w := w) (base := base) T
  have G__law_less := ok__law_less (P := P) (w := w) (base := base) T
  have G__law_is_fraction := ok__law_is_fraction (P := P) (w := w) (base := base) T G__law_whole G__law_common
  have G__law_is_row := ok__law_is_row (P := P) (w := w) (base := base) T G__law_is_fraction
  have G__law_bounds := ok__law_bounds (P := P) (w := w) (base := base) T G__law_take
  have G__law_run_in := ok__law_run_in (P := P) (w := w) (base := base) T G__law_take G__law_part
  have G__law_any_run := ok__law_any_run (P := P) (w := w) (base := base) T G__law_part G__law_take
  have G__law_outside := ok__law_outside (P := P) (w := w) (base := base) T G__law_less
  have G__law_near := ok__law_near (P := P) (w := w) (base := base) T G__law_take
  have G__law_bounds_right := ok__law_bounds_right (P := P) (w := w) (base := base) T G__law_part G__law_take G__law_run_in G__law_any_run G__law_outside G__law_plus G__law_put G__law_says G__law_times G__law_minus G_is_within
  have G_law := ok_law (P := P) (w := w) (base := base) T G__law_well G__law_bounds G__law_near G_is_run G_is_within G__law_take G__law_bounds_right G__law_run_in G__law_any_run G__law_is_row G__law_says
  G_law
end FL
namespace FL
open PySem PySem.Spec L2
theorem all_mk {l : PySem.W.OpenLaw} {w : World} {K : PySem.W.Frag} {h : Heap} {mg : Str → Option Value} {fa : Addr} (pl : Plain F_law) (X : K.In h) (G : h.Ns mainGlobals mg) (hfa : mg "law" = some (.ref fa))
    {od0 an0 : Option Addr} {sl0 : Array (Option Value)} {oc0 kV0 dc0 pm0 cd0 ct0 : Value} {f0 : Addr} (a0 : PySem.W.nsIn K mainGlobals "is_whole" = some (some (.ref f0))) (l0 : K.lookup f0 = some ⟨oc0, od0, .func (PySem.W.fnOf "is_whole" "is_whole" (defArgs (topS 2)) (defBody (topS 2)) (defScope (topS 2)) .none kV0 dc0 pm0 an0 cd0 ct0), sl0⟩) (c0 : PySem.W.codeIn K cd0 "is_whole" = true) (k0 : PySem.W.keepIn K (.ref f0) = true)
    {od1 an1 : Option Addr} {sl1 : Array (Option Value)} {oc1 kV1 dc1 pm1 cd1 ct1 : Value} {f1 : Addr} (a1 : PySem.W.nsIn K mainGlobals "is_between" = some (some (.ref f1))) (l1 : K.lookup f1 = some ⟨oc1, od1, .func (PySem.W.fnOf "is_between" "is_between" (defArgs (topS 3)) (defBody (topS 3)) (defScope (topS 3)) .none kV1 dc1 pm1 an1 cd1 ct1), sl1⟩) (c1 : PySem.W.codeIn K cd1 "is_between" = true) (k1 : PySem.W.keepIn K (.ref f1) = true)
    {od2 an2 : Option Addr} {sl2 : Array (Option Value)} {oc2 kV2 dc2 pm2 cd2 ct2 : Value} {f2 : Addr} (a2 : PySem.W.nsIn K mainGlobals "is_tuple_of" = some (some (.ref f2))) (l2 : K.lookup f2 = some ⟨oc2, od2, .func (PySem.W.fnOf "is_tuple_of" "is_tuple_of" (defArgs (topS 4)) (defBody (topS 4)) (defScope (topS 4)) .none kV2 dc2 pm2 an2 cd2 ct2), sl2⟩) (c2 : PySem.W.codeIn K cd2 "is_tuple_of" = true) (k2 : PySem.W.keepIn K (.ref f2) = true)
    {od3 an3 : Option Addr} {sl3 : Array (Option Value)} {oc3 kV3 dc3 pm3 cd3 ct3 : Value} {f3 : Addr} (a3 : PySem.W.nsIn K mainGlobals "first_wrong" = some (some (.ref f3))) (l3 : K.lookup f3 = some ⟨oc3, od3, .func (PySem.W.fnOf "first_wrong" "first_wrong" (defArgs (topS 5)) (defBody (topS 5)) (defScope (topS 5)) .none kV3 dc3 pm3 an3 cd3 ct3), sl3⟩) (c3 : PySem.W.codeIn K cd3 "first_wrong" = true) (k3 : PySem.W.keepIn K (.ref f3) = true)
    {od4 an4 : Option Addr} {sl4 : Array (Option Value)} {oc4 kV4 dc4 pm4 cd4 ct4 : Value} {f4 : Addr} (a4 : PySem.W.nsIn K mainGlobals "is_fraction_by" = some (some (.ref f4))) (l4 : K.lookup f4 = some ⟨oc4, od4, .func (PySem.W.fnOf "is_fraction_by" "is_fraction_by" (defArgs (topS 6)) (defBody (topS 6)) (defScope (topS 6)) .none kV4 dc4 pm4 an4 cd4 ct4), sl4⟩) (c4 : PySem.W.codeIn K cd4 "is_fraction_by" = true) (k4 : PySem.W.keepIn K (.ref f4) = true)
    {od5 an5 : Option Addr} {sl5 : Array (Option Value)} {oc5 kV5 dc5 pm5 cd5 ct5 : Value} {f5 : Addr} (a5 : PySem.W.nsIn K mainGlobals "whole" = some (some (.ref f5))) (l5 : K.lookup f5 = some ⟨oc5, od5, .func (PySem.W.fnOf "whole" "whole" (defArgs (topS 7)) (defBody (topS 7)) (defScope (topS 7)) .none kV5 dc5 pm5 an5 cd5 ct5), sl5⟩) (c5 : PySem.W.codeIn K cd5 "whole" = true) (k5 : PySem.W.keepIn K (.ref f5) = true)
    {od6 an6 : Option Addr} {sl6 : Array (Option Value)} {oc6 kV6 dc6 pm6 cd6 ct6 : Value} {f6 : Addr} (a6 : PySem.W.nsIn K mainGlobals "is_less" = some (some (.ref f6))) (l6 : K.lookup f6 = some ⟨oc6, od6, .func (PySem.W.fnOf "is_less" "is_less" (defArgs (topS 8)) (defBody (topS 8)) (defScope (topS 8)) .none kV6 dc6 pm6 an6 cd6 ct6), sl6⟩) (c6 : PySem.W.codeIn K cd6 "is_less" = true) (k6 : PySem.W.keepIn K (.ref f6) = true)
    {od7 an7 : Option Addr} {sl7 : Array (Option Value)} {oc7 kV7 dc7 pm7 cd7 ct7 : Value} {f7 : Addr} (a7 : PySem.W.nsIn K mainGlobals "is_pair_by" = some (some (.ref f7))) (l7 : K.lookup f7 = some ⟨oc7, od7, .func (PySem.W.fnOf "is_pair_by" "is_pair_by" (defArgs (topS 15)) (defBody (topS 15)) (defScope (topS 15)) .none kV7 dc7 pm7 an7 cd7 ct7), sl7⟩) (c7 : PySem.W.codeIn K cd7 "is_pair_by" = true) (k7 : PySem.W.keepIn K (.ref f7) = true)
    {od8 an8 : Option Addr} {sl8 : Array (Option Value)} {oc8 kV8 dc8 pm8 cd8 ct8 : Value} {f8 : Addr} (a8 : PySem.W.nsIn K mainGlobals "are_bounds_by" = some (some (.ref f8))) (l8 : K.lookup f8 = some ⟨oc8, od8, .func (PySem.W.fnOf "are_bounds_by" "are_bounds_by" (defArgs (topS 16)) (defBody (topS 16)) (defScope (topS 16)) .none kV8 dc8 pm8 an8 cd8 ct8), sl8⟩) (c8 : PySem.W.codeIn K cd8 "are_bounds_by" = true) (k8 : PySem.W.keepIn K (.ref f8) = true)
    {od9 an9 : Option Addr} {sl9 : Array (Option Value)} {oc9 kV9 dc9 pm9 cd9 ct9 : Value} {f9 : Addr} (a9 : PySem.W.nsIn K mainGlobals "is_run_by" = some (some (.ref f9))) (l9 : K.lookup f9 = some ⟨oc9, od9, .func (PySem.W.fnOf "is_run_by" "is_run_by" (defArgs (topS 17)) (defBody (topS 17)) (defScope (topS 17)) .none kV9 dc9 pm9 an9 cd9 ct9), sl9⟩) (c9 : PySem.W.codeIn K cd9 "is_run_by" = true) (k9 : PySem.W.keepIn K (.ref f9) = true)
    {od10 an10 : Option Addr} {sl10 : Array (Option Value)} {oc10 kV10 dc10 pm10 cd10 ct10 : Value} {f10 : Addr} (a10 : PySem.W.nsIn K mainGlobals "is_height_within" = some (some (.ref f10))) (l10 : K.lookup f10 = some ⟨oc10, od10, .func (PySem.W.fnOf "is_height_within" "is_height_within" (defArgs (topS 18)) (defBody (topS 18)) (defScope (topS 18)) .none kV10 dc10 pm10 an10 cd10 ct10), sl10⟩) (c10 : PySem.W.codeIn K cd10 "is_height_within" = true) (k10 : PySem.W.keepIn K (.ref f10) = true)
    {od11 an11 : Option Addr} {sl11 : Array (Option Value)} {oc11 kV11 dc11 pm11 cd11 ct11 : Value} {f11 : Addr} (a11 : PySem.W.nsIn K mainGlobals "first_without" = some (some (.ref f11))) (l11 : K.lookup f11 = some ⟨oc11, od11, .func (PySem.W.fnOf "first_without" "first_without" (defArgs (topS 19)) (defBody (topS 19)) (defScope (topS 19)) .none kV11 dc11 pm11 an11 cd11 ct11), sl11⟩) (c11 : PySem.W.codeIn K cd11 "first_without" = true) (k11 : PySem.W.keepIn K (.ref f11) = true)
    {od12 an12 : Option Addr} {sl12 : Array (Option Value)} {oc12 kV12 dc12 pm12 cd12 ct12 : Value} {f12 : Addr} (a12 : PySem.W.nsIn K mainGlobals "check_bounds" = some (some (.ref f12))) (l12 : K.lookup f12 = some ⟨oc12, od12, .func (PySem.W.fnOf "check_bounds" "check_bounds" (defArgs (topS 25)) (defBody (topS 25)) (defScope (topS 25)) .none kV12 dc12 pm12 an12 cd12 ct12), sl12⟩) (c12 : PySem.W.codeIn K cd12 "check_bounds" = true) (k12 : PySem.W.keepIn K (.ref f12) = true)
    {od13 an13 : Option Addr} {sl13 : Array (Option Value)} {oc13 kV13 dc13 pm13 cd13 ct13 : Value} {f13 : Addr} (a13 : PySem.W.nsIn K mainGlobals "check_run" = some (some (.ref f13))) (l13 : K.lookup f13 = some ⟨oc13, od13, .func (PySem.W.fnOf "check_run" "check_run" (defArgs (topS 26)) (defBody (topS 26)) (defScope (topS 26)) .none kV13 dc13 pm13 an13 cd13 ct13), sl13⟩) (c13 : PySem.W.codeIn K cd13 "check_run" = true) (k13 : PySem.W.keepIn K (.ref f13) = true)
    {od14 an14 : Option Addr} {sl14 : Array (Option Value)} {oc14 kV14 dc14 pm14 cd14 ct14 : Value} {f14 : Addr} (a14 : PySem.W.nsIn K mainGlobals "check_run_of" = some (some (.ref f14))) (l14 : K.lookup f14 = some ⟨oc14, od14, .func (PySem.W.fnOf "check_run_of" "check_run_of" (defArgs (topS 27)) (defBody (topS 27)) (defScope (topS 27)) .none kV14 dc14 pm14 an14 cd14 ct14), sl14⟩) (c14 : PySem.W.codeIn K cd14 "check_run_of" = true) (k14 : PySem.W.keepIn K (.ref f14) = true)
    {od15 an15 : Option Addr} {sl15 : Array (Option Value)} {oc15 kV15 dc15 pm15 cd15 ct15 : Value} {f15 : Addr} (a15 : PySem.W.nsIn K mainGlobals "is_run" = some (some (.ref f15))) (l15 : K.lookup f15 = some ⟨oc15, od15, .func (PySem.W.fnOf "is_run" "is_run" (defArgs (topS 29)) (defBody (topS 29)) (defScope (topS 29)) .none kV15 dc15 pm15 an15 cd15 ct15), sl15⟩) (c15 : PySem.W.codeIn K cd15 "is_run" = true) (k15 : PySem.W.keepIn K (.ref f15) = true)
    {od16 an16 : Option Addr} {sl16 : Array (Option Value)} {oc16 kV16 dc16 pm16 cd16 ct16 : Value} {f16 : Addr} (a16 : PySem.W.nsIn K mainGlobals "is_within" = some (some (.ref f16))) (l16 : K.lookup f16 = some ⟨oc16, od16, .func (PySem.W.fnOf "is_within" "is_within" (defArgs (topS 30)) (defBody (topS 30)) (defScope (topS 30)) .none kV16 dc16 pm16 an16 cd16 ct16), sl16⟩) (c16 : PySem.W.codeIn K cd16 "is_within" = true) (k16 : PySem.W.keepIn K (.ref f16) = true)
    {od17 an17 : Option Addr} {sl17 : Array (Option Value)} {oc17 kV17 dc17 pm17 cd17 ct17 : Value} {f17 : Addr} (a17 : PySem.W.nsIn K mainGlobals "_law_well" = some (some (.ref f17))) (l17 : K.lookup f17 = some ⟨oc17, od17, .func (PySem.W.fnOf "_law_well" "_law_well" (defArgs (topS 32)) (defBody (topS 32)) (defScope (topS 32)) .none kV17 dc17 pm17 an17 cd17 ct17), sl17⟩) (c17 : PySem.W.codeIn K cd17 "_law_well" = true) (k17 : PySem.W.keepIn K (.ref f17) = true)
    {od18 an18 : Option Addr} {sl18 : Array (Option Value)} {oc18 kV18 dc18 pm18 cd18 ct18 : Value} {f18 : Addr} (a18 : PySem.W.nsIn K mainGlobals "_law_take" = some (some (.ref f18))) (l18 : K.lookup f18 = some ⟨oc18, od18, .func (PySem.W.fnOf "_law_take" "_law_take" (defArgs (topS 33)) (defBody (topS 33)) (defScope (topS 33)) .none kV18 dc18 pm18 an18 cd18 ct18), sl18⟩) (c18 : PySem.W.codeIn K cd18 "_law_take" = true) (k18 : PySem.W.keepIn K (.ref f18) = true)
    {od19 an19 : Option Addr} {sl19 : Array (Option Value)} {oc19 kV19 dc19 pm19 cd19 ct19 : Value} {f19 : Addr} (a19 : PySem.W.nsIn K mainGlobals "_law_says" = some (some (.ref f19))) (l19 : K.lookup f19 = some ⟨oc19, od19, .func (PySem.W.fnOf "_law_says" "_law_says" (defArgs (topS 34)) (defBody (topS 34)) (defScope (topS 34)) .none kV19 dc19 pm19 an19 cd19 ct19), sl19⟩) (c19 : PySem.W.codeIn K cd19 "_law_says" = true) (k19 : PySem.W.keepIn K (.ref f19) = true)
    {od20 an20 : Option Addr} {sl20 : Array (Option Value)} {oc20 kV20 dc20 pm20 cd20 ct20 : Value} {f20 : Addr} (a20 : PySem.W.nsIn K mainGlobals "_law_whole" = some (some (.ref f20))) (l20 : K.lookup f20 = some ⟨oc20, od20, .func (PySem.W.fnOf "_law_whole" "_law_whole" (defArgs (topS 35)) (defBody (topS 35)) (defScope (topS 35)) .none kV20 dc20 pm20 an20 cd20 ct20), sl20⟩) (c20 : PySem.W.codeIn K cd20 "_law_whole" = true) (k20 : PySem.W.keepIn K (.ref f20) = true)
    {od21 an21 : Option Addr} {sl21 : Array (Option Value)} {oc21 kV21 dc21 pm21 cd21 ct21 : Value} {f21 : Addr} (a21 : PySem.W.nsIn K mainGlobals "_law_common" = some (some (.ref f21))) (l21 : K.lookup f21 = some ⟨oc21, od21, .func (PySem.W.fnOf "_law_common" "_law_common" (defArgs (topS 36)) (defBody (topS 36)) (defScope (topS 36)) .none kV21 dc21 pm21 an21 cd21 ct21), sl21⟩) (c21 : PySem.W.codeIn K cd21 "_law_common" = true) (k21 : PySem.W.keepIn K (.ref f21) = true)
    {od22 an22 : Option Addr} {sl22 : Array (Option Value)} {oc22 kV22 dc22 pm22 cd22 ct22 : Value} {f22 : Addr} (a22 : PySem.W.nsIn K mainGlobals "_law_part" = some (some (.ref f22))) (l22 : K.lookup f22 = some ⟨oc22, od22, .func (PySem.W.fnOf "_law_part" "_law_part" (defArgs (topS 37)) (defBody (topS 37)) (defScope (topS 37)) .none kV22 dc22 pm22 an22 cd22 ct22), sl22⟩) (c22 : PySem.W.codeIn K cd22 "_law_part" = true) (k22 : PySem.W.keepIn K (.ref f22) = true)
    {od23 an23 : Option Addr} {sl23 : Array (Option Value)} {oc23 kV23 dc23 pm23 cd23 ct23 : Value} {f23 : Addr} (a23 : PySem.W.nsIn K mainGlobals "_law_plus" = some (some (.ref f23))) (l23 : K.lookup f23 = some ⟨oc23, od23, .func (PySem.W.fnOf "_law_plus" "_law_plus" (defArgs (topS 38)) (defBody (topS 38)) (defScope (topS 38)) .none kV23 dc23 pm23 an23 cd23 ct23), sl23⟩) (c23 : PySem.W.codeIn K cd23 "_law_plus" = true) (k23 : PySem.W.keepIn K (.ref f23) = true)
    {od24 an24 : Option Addr} {sl24 : Array (Option Value)} {oc24 kV24 dc24 pm24 cd24 ct24 : Value} {f24 : Addr} (a24 : PySem.W.nsIn K mainGlobals "_law_minus" = some (some (.ref f24))) (l24 : K.lookup f24 = some ⟨oc24, od24, .func (PySem.W.fnOf "_law_minus" "_law_minus" (defArgs (topS 39)) (defBody (topS 39)) (defScope (topS 39)) .none kV24 dc24 pm24 an24 cd24 ct24), sl24⟩) (c24 : PySem.W.codeIn K cd24 "_law_minus" = true) (k24 : PySem.W.keepIn K (.ref f24) = true)
    {od25 an25 : Option Addr} {sl25 : Array (Option Value)} {oc25 kV25 dc25 pm25 cd25 ct25 : Value} {f25 : Addr} (a25 : PySem.W.nsIn K mainGlobals "_law_times" = some (some (.ref f25))) (l25 : K.lookup f25 = some ⟨oc25, od25, .func (PySem.W.fnOf "_law_times" "_law_times" (defArgs (topS 40)) (defBody (topS 40)) (defScope (topS 40)) .none kV25 dc25 pm25 an25 cd25 ct25), sl25⟩) (c25 : PySem.W.codeIn K cd25 "_law_times" = true) (k25 : PySem.W.keepIn K (.ref f25) = true)
    {od26 an26 : Option Addr} {sl26 : Array (Option Value)} {oc26 kV26 dc26 pm26 cd26 ct26 : Value} {f26 : Addr} (a26 : PySem.W.nsIn K mainGlobals "_law_put" = some (some (.ref f26))) (l26 : K.lookup f26 = some ⟨oc26, od26, .func (PySem.W.fnOf "_law_put" "_law_put" (defArgs (topS 41)) (defBody (topS 41)) (defScope (topS 41)) .none kV26 dc26 pm26 an26 cd26 ct26), sl26⟩) (c26 : PySem.W.codeIn K cd26 "_law_put" = true) (k26 : PySem.W.keepIn K (.ref f26) = true)
    {od27 an27 : Option Addr} {sl27 : Array (Option Value)} {oc27 kV27 dc27 pm27 cd27 ct27 : Value} {f27 : Addr} (a27 : PySem.W.nsIn K mainGlobals "_law_less" = some (some (.ref f27))) (l27 : K.lookup f27 = some ⟨oc27, od27, .func (PySem.W.fnOf "_law_less" "_law_less" (defArgs (topS 42)) (defBody (topS 42)) (defScope (topS 42)) .none kV27 dc27 pm27 an27 cd27 ct27), sl27⟩) (c27 : PySem.W.codeIn K cd27 "_law_less" = true) (k27 : PySem.W.keepIn K (.ref f27) = true)
    {od28 an28 : Option Addr} {sl28 : Array (Option Value)} {oc28 kV28 dc28 pm28 cd28 ct28 : Value} {f28 : Addr} (a28 : PySem.W.nsIn K mainGlobals "_law_is_fraction" = some (some (.ref f28))) (l28 : K.lookup f28 = some ⟨oc28, od28, .func (PySem.W.fnOf "_law_is_fraction" "_law_is_fraction" (defArgs (topS 43)) (defBody (topS 43)) (defScope (topS 43)) .none kV28 dc28 pm28 an28 cd28 ct28), sl28⟩) (c28 : PySem.W.codeIn K cd28 "_law_is_fraction" = true) (k28 : PySem.W.keepIn K (.ref f28) = true)
    {od29 an29 : Option Addr} {sl29 : Array (Option Value)} {oc29 kV29 dc29 pm29 cd29 ct29 : Value} {f29 : Addr} (a29 : PySem.W.nsIn K mainGlobals "_law_is_row" = some (some (.ref f29))) (l29 : K.lookup f29 = some ⟨oc29, od29, .func (PySem.W.fnOf "_law_is_row" "_law_is_row" (defArgs (topS 44)) (defBody (topS 44)) (defScope (topS 44)) .none kV29 dc29 pm29 an29 cd29 ct29), sl29⟩) (c29 : PySem.W.codeIn K cd29 "_law_is_row" = true) (k29 : PySem.W.keepIn K (.ref f29) = true)
    {od30 an30 : Option Addr} {sl30 : Array (Option Value)} {oc30 kV30 dc30 pm30 cd30 ct30 : Value} {f30 : Addr} (a30 : PySem.W.nsIn K mainGlobals "_law_bounds" = some (some (.ref f30))) (l30 : K.lookup f30 = some ⟨oc30, od30, .func (PySem.W.fnOf "_law_bounds" "_law_bounds" (defArgs (topS 45)) (defBody (topS 45)) (defScope (topS 45)) .none kV30 dc30 pm30 an30 cd30 ct30), sl30⟩) (c30 : PySem.W.codeIn K cd30 "_law_bounds" = true) (k30 : PySem.W.keepIn K (.ref f30) = true)
    {od31 an31 : Option Addr} {sl31 : Array (Option Value)} {oc31 kV31 dc31 pm31 cd31 ct31 : Value} {f31 : Addr} (a31 : PySem.W.nsIn K mainGlobals "_law_run_in" = some (some (.ref f31))) (l31 : K.lookup f31 = some ⟨oc31, od31, .func (PySem.W.fnOf "_law_run_in" "_law_run_in" (defArgs (topS 46)) (defBody (topS 46)) (defScope (topS 46)) .none kV31 dc31 pm31 an31 cd31 ct31), sl31⟩) (c31 : PySem.W.codeIn K cd31 "_law_run_in" = true) (k31 : PySem.W.keepIn K (.ref f31) = true)
    {od32 an32 : Option Addr} {sl32 : Array (Option Value)} {oc32 kV32 dc32 pm32 cd32 ct32 : Value} {f32 : Addr} (a32 : PySem.W.nsIn K mainGlobals "_law_any_run" = some (some (.ref f32))) (l32 : K.lookup f32 = some ⟨oc32, od32, .func (PySem.W.fnOf "_law_any_run" "_law_any_run" (defArgs (topS 47)) (defBody (topS 47)) (defScope (topS 47)) .none kV32 dc32 pm32 an32 cd32 ct32), sl32⟩) (c32 : PySem.W.codeIn K cd32 "_law_any_run" = true) (k32 : PySem.W.keepIn K (.ref f32) = true)
    {od33 an33 : Option Addr} {sl33 : Array (Option Value)} {oc33 kV33 dc33 pm33 cd33 ct33 : Value} {f33 : Addr} (a33 : PySem.W.nsIn K mainGlobals "_law_outside" = some (some (.ref f33))) (l33 : K.lookup f33 = some ⟨oc33, od33, .func (PySem.W.fnOf "_law_outside" "_law_outside" (defArgs (topS 48)) (defBody (topS 48)) (defScope (topS 48)) .none kV33 dc33 pm33 an33 cd33 ct33), sl33⟩) (c33 : PySem.W.codeIn K cd33 "_law_outside" = true) (k33 : PySem.W.keepIn K (.ref f33) = true)
    {od34 an34 : Option Addr} {sl34 : Array (Option Value)} {oc34 kV34 dc34 pm34 cd34 ct34 : Value} {f34 : Addr} (a34 : PySem.W.nsIn K mainGlobals "_law_near" = some (some (.ref f34))) (l34 : K.lookup f34 = some ⟨oc34, od34, .func (PySem.W.fnOf "_law_near" "_law_near" (defArgs (topS 49)) (defBody (topS 49)) (defScope (topS 49)) .none kV34 dc34 pm34 an34 cd34 ct34), sl34⟩) (c34 : PySem.W.codeIn K cd34 "_law_near" = true) (k34 : PySem.W.keepIn K (.ref f34) = true)
    {od35 an35 : Option Addr} {sl35 : Array (Option Value)} {oc35 kV35 dc35 pm35 cd35 ct35 : Value} {f35 : Addr} (a35 : PySem.W.nsIn K mainGlobals "_law_bounds_right" = some (some (.ref f35))) (l35 : K.lookup f35 = some ⟨oc35, od35, .func (PySem.W.fnOf "_law_bounds_right" "_law_bounds_right" (defArgs (topS 50)) (defBody (topS 50)) (defScope (topS 50)) .none kV35 dc35 pm35 an35 cd35 ct35), sl35⟩) (c35 : PySem.W.codeIn K cd35 "_law_bounds_right" = true) (k35 : PySem.W.keepIn K (.ref f35) = true)
    {od36 an36 : Option Addr} {sl36 : Array (Option Value)} {oc36 kV36 dc36 pm36 cd36 ct36 : Value} {f36 : Addr} (a36 : PySem.W.nsIn K mainGlobals "law" = some (some (.ref f36))) (l36 : K.lookup f36 = some ⟨oc36, od36, .func (PySem.W.fnOf "law" "law" (defArgs (topS 51)) (defBody (topS 51)) (defScope (topS 51)) .none kV36 dc36 pm36 an36 cd36 ct36), sl36⟩) (c36 : PySem.W.codeIn K cd36 "law" = true) (k36 : PySem.W.keepIn K (.ref f36) = true)
    (zb_abs : PySem.W.nsIn K mainGlobals "abs" = some none)
    (zb_all : PySem.W.nsIn K mainGlobals "all" = some none)
    (zb_bool : PySem.W.nsIn K mainGlobals "bool" = some none)
    (zb_divmod : PySem.W.nsIn K mainGlobals "divmod" = some none)
    (zb_enumerate : PySem.W.nsIn K mainGlobals "enumerate" = some none)
    (zb_int : PySem.W.nsIn K mainGlobals "int" = some none)
    (zb_isinstance : PySem.W.nsIn K mainGlobals "isinstance" = some none)
    (zb_len : PySem.W.nsIn K mainGlobals "len" = some none)
    (zb_list : PySem.W.nsIn K mainGlobals "list" = some none)
    (zb_max : PySem.W.nsIn K mainGlobals "max" = some none)
    (zb_min : PySem.W.nsIn K mainGlobals "min" = some none)
    (zb_range : PySem.W.nsIn K mainGlobals "range" = some none)
    (zb_str : PySem.W.nsIn K mainGlobals "str" = some none)
    (zb_tuple : PySem.W.nsIn K mainGlobals "tuple" = some none)
    {t_FARTHEST : Tok} (zc_FARTHEST : PySem.W.nsIn K mainGlobals "FARTHEST" = some (some (.int (9999) t_FARTHEST)))
    {t_FEWEST_PLACES : Tok} (zc_FEWEST_PLACES : PySem.W.nsIn K mainGlobals "FEWEST_PLACES" = some (some (.int (2) t_FEWEST_PLACES)))
    {t_HIGH : Tok} (zc_HIGH : PySem.W.nsIn K mainGlobals "HIGH" = some (some (.int (1) t_HIGH)))
    {t_LOW : Tok} (zc_LOW : PySem.W.nsIn K mainGlobals "LOW" = some (some (.int (0) t_LOW)))
    {t_MOST_PLACES : Tok} (zc_MOST_PLACES : PySem.W.nsIn K mainGlobals "MOST_PLACES" = some (some (.int (9) t_MOST_PLACES)))
    (zg_gcd : PySem.W.nsIn K mainGlobals "gcd" = some (some (.builtin "math.gcd"))) :
    ∃ fd : FuncData, (∀ (s : Shared) (v : Value), BindsTo s fd ⟨[v], []⟩ [("script", v)]) ∧ ∀ base : Heap, K.In base → base.Ns mainGlobals mg → FnOk l.prog w K mg base (L2.CX l.prog w) 10 fa fd ["script"] (spLaw K) := by
  have e := hfa.symm.trans (PySem.W.mg_of X G a36)
  cases e
  have F0 := fun_mk (st := topS 2) l0 c0 k0
  have B0 := F0.binds (ps := ["value"]) fun _ _ _ _ _ _ us hl => match us, hl with | [_], _ => rfl
  have F1 := fun_mk (st := topS 3) l1 c1 k1
  have B1 := F1.binds (ps := ["value", "low", "high"]) fun _ _ _ _ _ _ us hl => match us, hl with | [_, _, _], _ => rfl
  have F2 := fun_mk (st := topS 4) l2 c2 k2
  have B2 := F2.binds (ps := ["value", "many"]) fun _ _ _ _ _ _ us hl => match us, hl with | [_, _], _ => rfl
  have F3 := fun_mk (st := topS 5) l3 c3 k3
  have B3 := F3.binds (ps := ["value", "fewest", "most", "is_right"]) fun _ _ _ _ _ _ us hl => match us, hl with | [_, _, _, _], _ => rfl
  have F4 := fun_mk (st := topS 6) l4 c4 k4
  have B4 := F4.binds (ps := ["value"]) fun _ _ _ _ _ _ us hl => match us, hl with | [_], _ => rfl
  have F5 := fun_mk (st := topS 7) l5 c5 k5
  have B5 := F5.binds (ps := ["number"]) fun _ _ _ _ _ _ us hl => match us, hl with | [_], _ => rfl
  have F6 := fun_mk (st := topS 8) l6 c6 k6
  have B6 := F6.binds (ps := ["one", "two"]) fun _ _ _ _ _ _ us hl => match us, hl with | [_, _], _ => rfl
  have F7 := fun_mk (st := topS 15) l7 c7 k7
  have B7 := F7.binds (ps := ["value"]) fun _ _ _ _ _ _ us hl => match us, hl with | [_], _ => rfl
  have F8 := fun_mk (st := topS 16) l8 c8 k8
  have B8 := F8.binds (ps := ["value"]) fun _ _ _ _ _ _ us hl => match us, hl with | [_], _ => rfl
  have F9 := fun_mk (st := topS 17) l9 c9 k9
  have B9 := F9.binds (ps := ["value"]) fun _ _ _ _ _ _ us hl => match us, hl with | [_], _ => rfl
  have F10 := fun_mk (st := topS 18) l10 c10 k10
  have B10 := F10.binds (ps := ["pair", "height"]) fun _ _ _ _ _ _ us hl => match us, hl with | [_, _], _ => rfl
  have F11 := fun_mk (st := topS 19) l11 c11 k11
  have B11 := F11.binds (ps := ["bounds", "run"]) fun _ _ _ _ _ _ us hl => match us, hl with | [_, _], _ => rfl
  have F12 := fun_mk (st := topS 25) l12 c12 k12
  have B12 := F12.binds (ps := ["value"]) fun _ _ _ _ _ _ us hl => match us, hl with | [_], _ => rfl
  have F13 := fun_mk (st := topS 26) l13 c13 k13
  have B13 := F13.binds (ps := ["value"]) fun _ _ _ _ _ _ us hl => match us, hl with | [_], _ => rfl
  have F14 := fun_mk (st := topS 27) l14 c14 k14
  have B14 := F14.binds (ps := ["bounds", "run"]) fun _ _ _ _ _ _ us hl => match us, hl with | [_, _], _ => rfl
  have F15 := fun_mk (st := topS 29) l15 c15 k15
  have B15 := F15.binds (ps := ["value"]) fun _ _ _ _ _ _ us hl => match us, hl with | [_], _ => rfl
  have F16 := fun_mk (st := topS 30) l16 c16 k16
  have B16 := F16.binds (ps := ["bounds", "run"]) fun _ _ _ _ _ _ us hl => match us, hl with | [_, _], _ => rfl
  have F17 := fun_mk (st := topS 32) l17 c17 k17
  have B17 := F17.binds (ps := ["script", "lap"]) fun _ _ _ _ _ _ us hl => match us, hl with | [_, _], _ => rfl
  have F18 := fun_mk (st := topS 33) l18 c18 k18
  have B18 := F18.binds (ps := ["well", "many"]) fun _ _ _ _ _ _ us hl => match us, hl with | [_, _], _ => rfl
  have F19 := fun_mk (st := topS 34) l19 c19 k19
  have B19 := F19.binds (ps := ["told", "due"]) fun _ _ _ _ _ _ us hl => match us, hl with | [_, _], _ => rfl
  have F20 := fun_mk (st := topS 35) l20 c20 k20
  have B20 := F20.binds (ps := ["value"]) fun _ _ _ _ _ _ us hl => match us, hl with | [_], _ => rfl
  have F21 := fun_mk (st := topS 36) l21 c21 k21
  have B21 := F21.binds (ps := ["one", "two"]) fun _ _ _ _ _ _ us hl => match us, hl with | [_, _], _ => rfl
  have F22 := fun_mk (st := topS 37) l22 c22 k22
  have B22 := F22.binds (ps := ["upper", "low"]) fun _ _ _ _ _ _ us hl => match us, hl with | [_, _], _ => rfl
  have F23 := fun_mk (st := topS 38) l23 c23 k23
  have B23 := F23.binds (ps := ["one", "two"]) fun _ _ _ _ _ _ us hl => match us, hl with | [_, _], _ => rfl
  have F24 := fun_mk (st := topS 39) l24 c24 k24
  have B24 := F24.binds (ps := ["one", "two"]) fun _ _ _ _ _ _ us hl => match us, hl with | [_, _], _ => rfl
  have F25 := fun_mk (st := topS 40) l25 c25 k25
  have B25 := F25.binds (ps := ["one", "two"]) fun _ _ _ _ _ _ us hl => match us, hl with | [_, _], _ => rfl
  have F26 := fun_mk (st := topS 41) l26 c26 k26
  have B26 := F26.binds (ps := ["row", "at", "value"]) fun _ _ _ _ _ _ us hl => match us, hl with | [_, _, _], _ => rfl
  have F27 := fun_mk (st := topS 42) l27 c27 k27
  have B27 := F27.binds (ps := ["one", "two"]) fun _ _ _ _ _ _ us hl => match us, hl with | [_, _], _ => rfl
  have F28 := fun_mk (st := topS 43) l28 c28 k28
  have B28 := F28.binds (ps := ["value"]) fun _ _ _ _ _ _ us hl => match us, hl with | [_], _ => rfl
  have F29 := fun_mk (st := topS 44) l29 c29 k29
  have B29 := F29.binds (ps := ["value", "many"]) fun _ _ _ _ _ _ us hl => match us, hl with | [_, _], _ => rfl
  have F30 := fun_mk (st := topS 45) l30 c30 k30
  have B30 := F30.binds (ps := ["well", "many"]) fun _ _ _ _ _ _ us hl => match us, hl with | [_, _], _ => rfl
  have F31 := fun_mk (st := topS 46) l31 c31 k31
  have B31 := F31.binds (ps := ["well", "bounds"]) fun _ _ _ _ _ _ us hl => match us, hl with | [_, _], _ => rfl
  have F32 := fun_mk (st := topS 47) l32 c32 k32
  have B32 := F32.binds (ps := ["well", "many"]) fun _ _ _ _ _ _ us hl => match us, hl with | [_, _], _ => rfl
  have F33 := fun_mk (st := topS 48) l33 c33 k33
  have B33 := F33.binds (ps := ["bounds", "run"]) fun _ _ _ _ _ _ us hl => match us, hl with | [_, _], _ => rfl
  have F34 := fun_mk (st := topS 49) l34 c34 k34
  have B34 := F34.binds (ps := ["well", "run"]) fun _ _ _ _ _ _ us hl => match us, hl with | [_, _], _ => rfl
  have F35 := fun_mk (st := topS 50) l35 c35 k35
  have B35 := F35.binds (ps := ["well", "bounds"]) fun _ _ _ _ _ _ us hl => match us, hl with | [_, _], _ => rfl
  have F36 := fun_mk (st := topS 51) l36 c36 k36
  have B36 := F36.binds (ps := ["script"]) fun _ _ _ _ _ _ us hl => match us, hl with | [_], _ => rfl
  have T : Txt K mg f4 f7 := ⟨⟨_, _, PySem.W.mg_of X G a0, F0, B0⟩, ⟨_, _, PySem.W.mg_of X G a1, F1, B1⟩, ⟨_, _, PySem.W.mg_of X G a2, F2, B2⟩, ⟨_, _, PySem.W.mg_of X G a3, F3, B3⟩, ⟨_, _, PySem.W.mg_of X G a4, F4, B4⟩, ⟨_, _, PySem.W.mg_of X G a5, F5, B5⟩, ⟨_, _, PySem.W.mg_of X G a6, F6, B6⟩, ⟨_, _, PySem.W.mg_of X G a7, F7, B7⟩, ⟨_, _, PySem.W.mg_of X G a8, F8, B8⟩, ⟨_, _, PySem.W.mg_of X G a9, F9, B9⟩, ⟨_, _, PySem.W.mg_of X G a10, F10, B10⟩, ⟨_, _, PySem.W.mg_of X G a11, F11, B11⟩, ⟨_, _, PySem.W.mg_of X G a12, F12, B12⟩, ⟨_, _, PySem.W.mg_of X G a13, F13, B13⟩, ⟨_, _, PySem.W.mg_of X G a14, F14, B14⟩, ⟨_, _, PySem.W.mg_of X G a15, F15, B15⟩, ⟨_, _, PySem.W.mg_of X G a16, F16, B16⟩, ⟨_, _, PySem.W.mg_of X G a17, F17, B17⟩, ⟨_, _, PySem.W.mg_of X G a18, F18, B18⟩, ⟨_, _, PySem.W.mg_of X G a19, F19, B19⟩, ⟨_, _, PySem.W.mg_of X G a20, F20, B20⟩, ⟨_, _, PySem.W.mg_of X G a21, F21, B21⟩, ⟨_, _, PySem.W.mg_of X G a22, F22, B22⟩, ⟨_, _, PySem.W.mg_of X G a23, F23, B23⟩, ⟨_, _, PySem.W.mg_of X G a24, F24, B24⟩, ⟨_, _, PySem.W.mg_of X G a25, F25, B25⟩, ⟨_, _, PySem.W.mg_of X G a26, F26, B26⟩, ⟨_, _, PySem.W.mg_of X G a27, F27, B27⟩, ⟨_, _, PySem.W.mg_of X G a28, F28, B28⟩, ⟨_, _, PySem.W.mg_of X G a29, F29, B29⟩, ⟨_, _, PySem.W.mg_of X G a30, F30, B30⟩, ⟨_, _, PySem.W.mg_of X G a31, F31, B31⟩, ⟨_, _, PySem.W.mg_of X G a32, F32, B32⟩, ⟨_, _, PySem.W.mg_of X G a33, F33, B33⟩, ⟨_, _, PySem.W.mg_of X G a34, F34, B34⟩, ⟨_, _, PySem.W.mg_of X G a35, F35, B35⟩, ⟨_, _, PySem.W.mg_of X G a36, F36, B36⟩, PySem.W.mg_none_of X G zb_abs, PySem.W.mg_none_of X G zb_all, PySem.W.mg_none_of X G zb_bool, PySem.W.mg_none_of X G zb_divmod, PySem.W.mg_none_of X G zb_enumerate, PySem.W.mg_none_of X G zb_int, PySem.W.mg_none_of X G zb_isinstance, PySem.W.mg_none_of X G zb_len, PySem.W.mg_none_of X G zb_list, PySem.W.mg_none_of X G zb_max, PySem.W.mg_none_of X G zb_min, PySem.W.mg_none_of X G zb_range, PySem.W.mg_none_of X G zb_str, PySem.W.mg_none_of X G zb_tuple, ⟨_, PySem.W.mg_of X G zc_FARTHEST⟩, ⟨_, PySem.W.mg_of X G zc_FEWEST_PLACES⟩, ⟨_, PySem.W.mg_of X G zc_HIGH⟩, ⟨_, PySem.W.mg_of X G zc_LOW⟩, ⟨_, PySem.W.mg_of X G zc_MOST_PLACES⟩, PySem.W.mg_of X G zg_gcd, PySem.W.mg_of X G a4, PySem.W.mg_of X G a7, a4, a7⟩
  refine ⟨PySem.W.fnOf "law" "law" (defArgs (topS 51)) (defBody (topS 51)) (defScope (topS 51)) .none kV36 dc36 pm36 an36 cd36 ct36, fun s v => .of_eq rfl, fun base _ _ => ?_⟩
  obtain ⟨f, fd, h1, _, h2, h3, _⟩ := (ok_every (P := l.prog) (w := w) (base := base) T).ex
  have h4 := (PySem.W.mg_of X G a36).symm.trans h1
  cases h4
  have h5 := fun_same F36 h2
  cases h5
  exact h3.imp (law_imp pl)
end FL
open PySem PySem.W PyProof.Rows
set_option maxRecDepth 100000 in
set_option maxHeartbeats 0 in
theorem PySem.Challenge.cw_levelruns_k06_whole_runs_of_anything_and_holds : PySem.Challenge.rw_levelruns_k06_whole_runs_of_anything_and.Holds := by
  w_on; o_law; k_head; (case hw => w_witness2)
  k_fill
  refine FL.walkF (k := 10) (l := PySem.Challenge.rw_levelruns_k06_whole_runs_of_anything_and) rfl rfl ⟨rfl, by decide, by decide⟩ (fun w h Y => PySem.W.kIn_of Y) ?F
  case F =>
    intro w mg fa h KX G hmg
    refine' FL.all_mk FL.plain_law KX G hmg ?a0 ?l0 ?c0 ?k0 ?a1 ?l1 ?c1 ?k1 ?a2 ?l2 ?c2 ?k2 ?a3 ?l3 ?c3 ?k3 ?a4 ?l4 ?c4 ?k4 ?a5 ?l5 ?c5 ?k5 ?a6 ?l6 ?c6 ?k6 ?a7 ?l7 ?c7 ?k7 ?a8 ?l8 ?c8 ?k8 ?a9 ?l9 ?c9 ?k9 ?a10 ?l10 ?c10 ?k10 ?a11 ?l11 ?c11 ?k11 ?a12 ?l12 ?c12 ?k12 ?a13 ?l13 ?c13 ?k13 ?a14 ?l14 ?c14 ?k14 ?a15 ?l15 ?c15 ?k15 ?a16 ?l16 ?c16 ?k16 ?a17 ?l17 ?c17 ?k17 ?a18 ?l18 ?c18 ?k18 ?a19 ?l19 ?c19 ?k19 ?a20 ?l20 ?c20 ?k20 ?a21 ?l21 ?c21 ?k21 ?a22 ?l22 ?c22 ?k22 ?a23 ?l23 ?c23 ?k23 ?a24 ?l24 ?c24 ?k24 ?a25 ?l25 ?c25 ?k25 ?a26 ?l26 ?c26 ?k26 ?a27 ?l27 ?c27 ?k27 ?a28 ?l28 ?c28 ?k28 ?a29 ?l29 ?c29 ?k29 ?a30 ?l30 ?c30 ?k30 ?a31 ?l31 ?c31 ?k31 ?a32 ?l32 ?c32 ?k32 ?a33 ?l33 ?c33 ?k33 ?a34 ?l34 ?c34 ?k34 ?a35 ?l35 ?c35 ?k35 ?a36 ?l36 ?c36 ?k36 ?zb_abs ?zb_all ?zb_bool ?zb_divmod ?zb_enumerate ?zb_int ?zb_isinstance ?zb_len ?zb_list ?zb_max ?zb_min ?zb_range ?zb_str ?zb_tuple ?zc_FARTHEST ?zc_FEWEST_PLACES ?zc_HIGH ?zc_LOW ?zc_MOST_PLACES ?zg_gcd
    (case a0 => k_is)
    (case l0 => k_is)
    (case c0 => k_is)
    (case k0 => k_is)
    (case a1 => k_is)
    (case l1 => k_is)
    (case c1 => k_is)
    (case k1 => k_is)
    (case a2 => k_is)
    (case l2 => k_is)
    (case c2 => k_is)
    (case k2 => k_is)
    (case a3 => k_is)
    (case l3 => k_is)
    (case c3 => k_is)
    (case k3 => k_is)
    (case a4 => k_is)
    (case l4 => k_is)
    (case c4 => k_is)
    (case k4 => k_is)
    (case a5 => k_is)
    (case l5 => k_is)
    (case c5 => k_is)
    (case k5 => k_is)
    (case a6 => k_is)
    (case l6 => k_is)
    (case c6 => k_is)
    (case k6 => k_is)
    (case a7 => k_is)
    (case l7 => k_is)
    (case c7 => k_is)
    (case k7 => k_is)
    (case a8 => k_is)
    (case l8 => k_is)
    (case c8 => k_is)
    (case k8 => k_is)
    (case a9 => k_is)
    (case l9 => k_is)
    (case c9 => k_is)
    (case k9 => k_is)
    (case a10 => k_is)
    (case l10 => k_is)
    (case c10 => k_is)
    (case k10 => k_is)
    (case a11 => k_is)
    (case l11 => k_is)
    (case c11 => k_is)
    (case k11 => k_is)
    (case a12 => k_is)
    (case l12 => k_is)
    (case c12 => k_is)
    (case k12 => k_is)
    (case a13 => k_is)
    (case l13 => k_is)
    (case c13 => k_is)
    (case k13 => k_is)
    (case a14 => k_is)
    (case l14 => k_is)
    (case c14 => k_is)
    (case k14 => k_is)
    (case a15 => k_is)
    (case l15 => k_is)
    (case c15 => k_is)
    (case k15 => k_is)
    (case a16 => k_is)
    (case l16 => k_is)
    (case c16 => k_is)
    (case k16 => k_is)
    (case a17 => k_is)
    (case l17 => k_is)
    (case c17 => k_is)
    (case k17 => k_is)
    (case a18 => k_is)
    (case l18 => k_is)
    (case c18 => k_is)
    (case k18 => k_is)
    (case a19 => k_is)
    (case l19 => k_is)
    (case c19 => k_is)
    (case k19 => k_is)
    (case a20 => k_is)
    (case l20 => k_is)
    (case c20 => k_is)
    (case k20 => k_is)
    (case a21 => k_is)
    (case l21 => k_is)
    (case c21 => k_is)
    (case k21 => k_is)
    (case a22 => k_is)
    (case l22 => k_is)
    (case c22 => k_is)
    (case k22 => k_is)
    (case a23 => k_is)
    (case l23 => k_is)
    (case c23 => k_is)
    (case k23 => k_is)
    (case a24 => k_is)
    (case l24 => k_is)
    (case c24 => k_is)
    (case k24 => k_is)
    (case a25 => k_is)
    (case l25 => k_is)
    (case c25 => k_is)
    (case k25 => k_is)
    (case a26 => k_is)
    (case l26 => k_is)
    (case c26 => k_is)
    (case k26 => k_is)
    (case a27 => k_is)
    (case l27 => k_is)
    (case c27 => k_is)
    (case k27 => k_is)
    (case a28 => k_is)
    (case l28 => k_is)
    (case c28 => k_is)
    (case k28 => k_is)
    (case a29 => k_is)
    (case l29 => k_is)
    (case c29 => k_is)
    (case k29 => k_is)
    (case a30 => k_is)
    (case l30 => k_is)
    (case c30 => k_is)
    (case k30 => k_is)
    (case a31 => k_is)
    (case l31 => k_is)
    (case c31 => k_is)
    (case k31 => k_is)
    (case a32 => k_is)
    (case l32 => k_is)
    (case c32 => k_is)
    (case k32 => k_is)
    (case a33 => k_is)
    (case l33 => k_is)
    (case c33 => k_is)
    (case k33 => k_is)
    (case a34 => k_is)
    (case l34 => k_is)
    (case c34 => k_is)
    (case k34 => k_is)
    (case a35 => k_is)
    (case l35 => k_is)
    (case c35 => k_is)
    (case k35 => k_is)
    (case a36 => k_is)
    (case l36 => k_is)
    (case c36 => k_is)
    (case k36 => k_is)
    (case zb_abs => k_is)
    (case zb_all => k_is)
    (case zb_bool => k_is)
    (case zb_divmod => k_is)
    (case zb_enumerate => k_is)
    (case zb_int => k_is)
    (case zb_isinstance => k_is)
    (case zb_len => k_is)
    (case zb_list => k_is)
    (case zb_max => k_is)
    (case zb_min => k_is)
    (case zb_range => k_is)
    (case zb_str => k_is)
    (case zb_tuple => k_is)
    (case zc_FARTHEST => k_is)
    (case zc_FEWEST_PLACES => k_is)
    (case zc_HIGH => k_is)
    (case zc_LOW => k_is)
    (case zc_MOST_PLACES => k_is)
    (case zg_gcd => k_is)
#print axioms PySem.Challenge.cw_levelruns_k06_whole_runs_of_anything_and_holds
