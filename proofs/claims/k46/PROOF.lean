import PyProof.Rows.All
import Wide.All
import OpenK.AllK
import Wide.FinOn
import HandS.ForMost
import HandS.ForExc
import HandS.Flow
import HandS.IsInst
import HandS.Wide
import HandS.Gcd
import HandS.TupAny
import HandS.TupMul
import HandS.CallSlots
import HandS.WordsExc
import HandS.Walk
import HandS.Deep
import HandS.Defaults
import HandS.WideBits
import KE.GoesMore
import HandS.Zip
import HandS.Style
import HandS.CallLocal
import HandS.Dict
import KE.KRevSl
import HandS.EndBits
import HandS.Star
import HandS.SortInts
import HandS.Conv
import PySem.Challenge.RW_levelruns_k46_whole_rising_rows_by_means
set_option Elab.async false
set_option linter.all false
set_option maxRecDepth 100000
set_option maxHeartbeats 4000000
/-! FL: a reading of defs as plain functions over plain data. Part 1: data, states, the monad, expressions. -/
namespace FL
open PySem PySem.Spec L2
/-! ### data -/
inductive D where
  | non | bl (b : Bool) | int (i : Int) | str (x : Str) | tup (ds : List D) | lst (ds : List D) | scr (ds : List D) | dct (kvs : List (Key × D)) | opq (v : V) | dfn (x : Str)
instance : Inhabited D := ⟨.non⟩
mutual
inductive Rep (K : PySem.W.Frag) (F : Hp) : V → D → Prop
  | non : Rep K F .non .non
  | bl (b : Bool) : Rep K F (.bl b) (.bl b)
  | int (i : Int) : Rep K F (.int i) (.int i)
  | str (x : Str) : Rep K F (.str x) (.str x)
  | tup {a : Addr} {vs : List V} {ds : List D} : SqT K F a vs → RepL K F vs ds → Rep K F (.ref a) (.tup ds)
  | lst {a : Addr} {vs : List V} {ds : List D} : F a = some (.lst vs) → RepL K F vs ds → Rep K F (.ref a) (.lst ds)
  | scr {a : Addr} {vs : List V} {ds : List D} : SqL K F a vs → RepL K F vs ds → Rep K F (.ref a) (.scr ds)
  | dct {a : Addr} {kvs : List (Key × V)} {kds : List (Key × D)} : F a = some (.dK kvs) → RepK K F kvs kds → Rep K F (.ref a) (.dct kds)
  | opq (v : V) : Rep K F v (.opq v)
  | dfn {x : Str} {f : Addr} : PySem.W.nsIn K mainGlobals x = some (some (.ref f)) → Rep K F (.ref f) (.dfn x)
inductive RepL (K : PySem.W.Frag) (F : Hp) : List V → List D → Prop
  | nil : RepL K F [] []
  | cons {v : V} {vs : List V} {d : D} {ds : List D} : Rep K F v d → RepL K F vs ds → RepL K F (v :: vs) (d :: ds)
inductive RepK (K : PySem.W.Frag) (F : Hp) : List (Key × V) → List (Key × D) → Prop
  | nil : RepK K F [] []
  | cons {k : Key} {v : V} {vs : List (Key × V)} {d : D} {ds : List (Key × D)} : Rep K F v d → RepK K F vs ds → RepK K F ((k, v) :: vs) ((k, d) :: ds)
end
theorem sameT {K : PySem.W.Frag} {H H' : Hp} {a : Addr} {xs : List V} (e : Same H H') (h : SqT K H a xs) : SqT K H' a xs := by
  cases h with
  | inl h =>
    cases h with
    | inl q => exact Or.inl (Or.inl (e a _ q))
    | inr q => exact Or.inl (Or.inr (q.elim fun o z => ⟨o, e a _ z⟩))
  | inr h => exact Or.inr h
mutual
theorem Rep.mono {K : PySem.W.Frag} {F F' : Hp} (e : Same F F') : ∀ {v : V} {d : D}, Rep K F v d → Rep K F' v d
  | _, _, .non => .non
  | _, _, .bl b => .bl b
  | _, _, .int i => .int i
  | _, _, .str x => .str x
  | _, _, .tup h r => .tup (sameT e h) (RepL.mono e r)
  | _, _, .lst h r => .lst (e _ _ h) (RepL.mono e r)
  | _, _, .scr h r => .scr (e.seq h) (RepL.mono e r)
  | _, _, .dct h r => .dct (e _ _ h) (RepK.mono e r)
  | _, _, .opq v => .opq v
  | _, _, .dfn h => .dfn h
theorem RepL.mono {K : PySem.W.Frag} {F F' : Hp} (e : Same F F') : ∀ {vs : List V} {ds : List D}, RepL K F vs ds → RepL K F' vs ds
  | _, _, .nil => .nil
  | _, _, .cons h r => .cons (Rep.mono e h) (RepL.mono e r)
theorem RepK.mono {K : PySem.W.Frag} {F F' : Hp} (e : Same F F') : ∀ {vs : List (Key × V)} {ds : List (Key × D)}, RepK K F vs ds → RepK K F' vs ds
  | _, _, .nil => .nil
  | _, _, .cons h r => .cons (Rep.mono e h) (RepK.mono e r)
end
theorem RepL.length {K : PySem.W.Frag} {F : Hp} : ∀ {vs : List V} {ds : List D}, RepL K F vs ds → vs.length = ds.length
  | _, _, .nil => rfl
  | _, _, .cons _ r => congrArg (· + 1) (RepL.length r)
theorem RepL.get {K : PySem.W.Frag} {F : Hp} : ∀ {vs : List V} {ds : List D} {i : Nat} {d : D}, RepL K F vs ds → ds[i]? = some d → ∃ v, vs[i]? = some v ∧ Rep K F v d
  | _, _, _, _, .nil, h => by cases h
  | _, _, 0, d, .cons (v := v) h _, e => by
    have e' : _ = d := Option.some.inj e
    subst e'
    exact ⟨v, rfl, h⟩
  | _, _, i + 1, d, .cons _ r, e => RepL.get (i := i) r e
theorem RepL.get' {K : PySem.W.Frag} {F : Hp} : ∀ {vs : List V} {ds : List D} {i : Nat} {v : V}, RepL K F vs ds → vs[i]? = some v → ∃ d, ds[i]? = some d ∧ Rep K F v d
  | _, _, _, _, .nil, h => by cases h
  | _, _, 0, v, .cons (d := d) h _, e => by
    have e' : _ = v := Option.some.inj e
    subst e'
    exact ⟨d, rfl, h⟩
  | _, _, i + 1, v, .cons _ r, e => RepL.get' (i := i) r e
theorem RepL.app {K : PySem.W.Frag} {F : Hp} : ∀ {vs us : List V} {ds es : List D}, RepL K F vs ds → RepL K F us es → RepL K F (vs ++ us) (ds ++ es)
  | _, _, _, _, .nil, q => q
  | _, _, _, _, .cons h r, q => .cons h (RepL.app r q)
theorem RepL.take {K : PySem.W.Frag} {F : Hp} : ∀ {vs : List V} {ds : List D} (n : Nat), RepL K F vs ds → RepL K F (vs.take n) (ds.take n)
  | _, _, 0, _ => .nil
  | _, _, _ + 1, .nil => .nil
  | _, _, n + 1, .cons h r => .cons h (RepL.take n r)
theorem RepL.drop {K : PySem.W.Frag} {F : Hp} : ∀ {vs : List V} {ds : List D} (n : Nat), RepL K F vs ds → RepL K F (vs.drop n) (ds.drop n)
  | _, _, 0, r => r
  | _, _, _ + 1, .nil => .nil
  | _, _, n + 1, .cons _ r => RepL.drop n r
theorem RepL.rev {K : PySem.W.Frag} {F : Hp} : ∀ {vs : List V} {ds : List D}, RepL K F vs ds → RepL K F vs.reverse ds.reverse
  | _, _, .nil => .nil
  | _, _, .cons (v := v) (d := d) h r => by
    rw [List.reverse_cons, List.reverse_cons]
    exact RepL.app (RepL.rev r) (.cons h .nil)
theorem RepL.set {K : PySem.W.Frag} {F : Hp} {v : V} {d : D} (h : Rep K F v d) : ∀ {vs : List V} {ds : List D} (n : Nat), RepL K F vs ds → RepL K F (vs.set n v) (ds.set n d)
  | _, _, _, .nil => .nil
  | _, _, 0, .cons _ r => .cons h r
  | _, _, n + 1, .cons q r => .cons q (RepL.set h n r)
/-! ### states -/
/-- own: made here; io: a caller's, changed here -/
inductive CK where | own | io
  deriving DecidableEq
inductive Ent where | no | val (d : D) | cel (k : CK) (ds : List D)
/-- the frozen heap, the heap, the slots, the plain slots -/
structure Cf where
  F : Hp
  H : Hp
  s : St
  r : List Ent
/-- x's slot i is the list at p that may change -/
def CelAt (x : Cf) (i : Nat) (k : CK) (p : Addr) : Prop := (∃ ds, x.r[i]? = some (.cel k ds)) ∧ x.s[i]? = some (some (.ref p))
def CelRep (K : PySem.W.Frag) (x : Cf) (p : Addr) (ds : List D) : Prop := ∃ us, RepL K x.F us ds ∧ x.H p = some (.lst us) ∧ x.F p = none
structure RSt (K : PySem.W.Frag) (x : Cf) : Prop where
  sub : Same x.F x.H
  len : x.s.length = x.r.length
  val : ∀ (i : Nat) (d : D), x.r[i]? = some (.val d) → ∃ v, x.s[i]? = some (some v) ∧ Rep K x.F v d
  cel : ∀ (i : Nat) (k : CK) (ds : List D), x.r[i]? = some (.cel k ds) → ∃ p, x.s[i]? = some (some (.ref p)) ∧ CelRep K x p ds
  dis : ∀ (i j : Nat) (k l : CK) (p : Addr), CelAt x i k p → CelAt x j l p → i = j
/-- what a step leaves: T: the slots that it may touch -/
structure Fr (T : List Nat) (x y : Cf) : Prop where
  ln : y.r.length = x.r.length
  ff : Same x.F y.F
  dm : ∀ a, y.H a = none → x.H a = none
  nw : ∀ a o, y.F a = some o → (∃ u, x.F a = some u) ∨ x.H a = none ∨ ∃ i, CelAt x i .own a
  hp : ∀ a o, x.H a = some o → (∀ i ∈ T, ∀ k, ¬ CelAt x i k a) → y.H a = some o
  cc : ∀ i k p, CelAt y i k p → (k = .own ∧ x.H p = none) ∨ CelAt x i k p
  un : ∀ i, i ∉ T → y.r[i]? = x.r[i]? ∧ y.s[i]? = x.s[i]?
theorem Fr.refl (T : List Nat) (x : Cf) : Fr T x x := ⟨rfl, Same.refl _, fun _ h => h, fun a o h => .inl ⟨o, h⟩, fun _ _ h _ => h, fun _ _ _ h => .inr h, fun _ _ => ⟨rfl, rfl⟩⟩
theorem Fr.trans {T : List Nat} {x y z : Cf} (a : Fr T x y) (b : Fr T y z) : Fr T x z where
  ln := b.ln.trans a.ln
  ff := a.ff.trans b.ff
  dm := fun p h => a.dm p (b.dm p h)
  nw := fun p o h => by
    rcases b.nw p o h with ⟨u, q⟩ | q | ⟨i, q⟩
    · exact a.nw p u q
    · exact .inr (.inl (a.dm p q))
    · rcases a.cc i _ p q with ⟨_, q⟩ | q
      · exact .inr (.inl q)
      · exact .inr (.inr ⟨i, q⟩)
  hp := fun p o h n => b.hp p o (a.hp p o h n) fun i hi k q => by
    rcases a.cc i k p q with ⟨_, z⟩ | z
    · rw [h] at z; cases z
    · exact n i hi k z
  cc := fun i k p h => by
    rcases b.cc i k p h with ⟨e, q⟩ | q
    · exact .inl ⟨e, a.dm p q⟩
    · exact a.cc i k p q
  un := fun i hi => ⟨(b.un i hi).1.trans (a.un i hi).1, (b.un i hi).2.trans (a.un i hi).2⟩
theorem Fr.mono {S T : List Nat} (h : ∀ i ∈ S, i ∈ T) {x y : Cf} (f : Fr S x y) : Fr T x y :=
  ⟨f.ln, f.ff, f.dm, f.nw, fun a o e n => f.hp a o e fun i hi => n i (h i hi), f.cc, fun i hi => f.un i fun z => hi (h i z)⟩
/-- new things alone -/
structure Ext (x y : Cf) : Prop where
  s : y.s = x.s
  r : y.r = x.r
  ff : Same x.F y.F
  hh : Same x.H y.H
  sub : Same y.F y.H
  nw : ∀ a o, y.F a = some o → (∃ u, x.F a = some u) ∨ x.H a = none
theorem Ext.refl {K : PySem.W.Frag} {x : Cf} (h : RSt K x) : Ext x x := ⟨rfl, rfl, Same.refl _, Same.refl _, h.sub, fun a o e => .inl ⟨o, e⟩⟩
theorem Same.dm {H H' : Hp} (e : Same H H') (a : Addr) (h : H' a = none) : H a = none := e.free h
theorem Ext.fr {x y : Cf} (e : Ext x y) (T : List Nat) : Fr T x y :=
  ⟨by rw [e.r], e.ff, fun a h => e.hh.free h, fun a o h => (e.nw a o h).elim .inl fun q => .inr (.inl q), fun a o h _ => e.hh a o h, fun i k p h => .inr (by unfold CelAt at h ⊢; rw [e.s, e.r] at h; exact h), fun i _ => by rw [e.s, e.r]; exact ⟨rfl, rfl⟩⟩
theorem Ext.rst {K : PySem.W.Frag} {x y : Cf} (e : Ext x y) (h : RSt K x) : RSt K y where
  sub := e.sub
  len := by rw [e.s, e.r]; exact h.len
  val := fun i d q => by
    rw [e.r] at q
    obtain ⟨v, h1, h2⟩ := h.val i d q
    exact ⟨v, by rw [e.s]; exact h1, h2.mono e.ff⟩
  cel := fun i k ds q => by
    rw [e.r] at q
    obtain ⟨p, h1, us, h2, h3, h4⟩ := h.cel i k ds q
    refine ⟨p, by rw [e.s]; exact h1, us, h2.mono e.ff, e.hh _ _ h3, ?_⟩
    cases w : y.F p with
    | none => rfl
    | some o =>
      rcases e.nw p o w with ⟨u, g⟩ | g
      · rw [h4] at g; cases g
      · rw [h3] at g; cases g
  dis := fun i j k l p h1 h2 => h.dis i j k l p (by unfold CelAt at h1 ⊢; rw [e.s, e.r] at h1; exact h1) (by unfold CelAt at h2 ⊢; rw [e.s, e.r] at h2; exact h2)
theorem Ext.trans {x y z : Cf} (a : Ext x y) (b : Ext y z) : Ext x z :=
  ⟨b.s.trans a.s, b.r.trans a.r, a.ff.trans b.ff, a.hh.trans b.hh, b.sub, fun p o h => by
    rcases b.nw p o h with ⟨u, q⟩ | q
    · exact a.nw p u q
    · exact .inr (a.hh.free q)⟩
theorem same_upd {H : Hp} {p : Addr} {o : HO} (h : H p = none) : Same H (upd H p o) := fun b u e => by rw [upd_ne (ne_of_none e h)]; exact e
/-- a new object, frozen at once -/
theorem Ext.new {K : PySem.W.Frag} {x : Cf} (h : RSt K x) {p : Addr} {o : HO} (hp : x.H p = none) : Ext x ⟨upd x.F p o, upd x.H p o, x.s, x.r⟩ := by
  have fp : x.F p = none := h.sub.free hp
  refine ⟨rfl, rfl, same_upd fp, same_upd hp, fun b u e => ?_, fun b u e => ?_⟩
  · by_cases hb : b = p
    · subst hb
      exact (show upd x.H b o b = some u by rw [upd_same]; exact (by rw [← e]; exact upd_same.symm))
    · show upd x.H p o b = some u
      rw [upd_ne hb]
      exact h.sub b u (by rw [← e]; exact (upd_ne hb).symm)
  · by_cases hb : b = p
    · subst hb; exact .inr hp
    · exact .inl ⟨u, by rw [← e]; exact (upd_ne hb).symm⟩
/-- a new object, not frozen -/
theorem Ext.raw {K : PySem.W.Frag} {x : Cf} (h : RSt K x) {p : Addr} {o : HO} (hp : x.H p = none) : Ext x ⟨x.F, upd x.H p o, x.s, x.r⟩ :=
  ⟨rfl, rfl, Same.refl _, same_upd hp, h.sub.trans (same_upd hp), fun _ u e => .inl ⟨u, e⟩⟩
/-! ### the monad -/
inductive R (α : Type) where
  | ok (a : α) (r : List Ent) | exc (c : Str) (pl : Option (Str × D)) (r : List Ent) | bad
abbrev M (α : Type) := List Ent → R α
def mP {α : Type} (a : α) : M α := fun r => .ok a r
def mB {α β : Type} (m : M α) (k : α → M β) : M β := fun r => match m r with
  | .ok a r' => k a r'
  | .exc c p r' => .exc c p r'
  | .bad => .bad
def mO {α : Type} (o : Option α) : M α := fun r => match o with
  | some a => .ok a r
  | none => .bad
/-- an exception of the class that the module names c, with its one attribute -/
def ExcRep (K : PySem.W.Frag) (mg : Str → Option Value) (y : Cf) (c : Str) (pl : Option (Str × D)) (cls : Value) (dx : Option Addr) : Prop :=
  mg c = some cls ∧ match pl with
    | none => True
    | some (n, d) => ∃ p v, dx = some p ∧ y.H p = some (.xd [(n, v)]) ∧ Rep K y.F v d
def Post {α : Type} (K : PySem.W.Frag) (mg : Str → Option Value) (T : List Nat) (W : WX) (x : Cf) (r : R α) (Q : α → Cf → Prop) : Prop := match r with
  | .ok a ρ => ∀ y : Cf, y.r = ρ → Fr T x y → RSt K y → Q a y
  | .exc c pl ρ => ∀ (y : Cf) (cls : Value) (dx : Option Addr), y.r = ρ → Fr T x y → RSt K y → ExcRep K mg y c pl cls dx → W cls dx y.s y.H
  | .bad => False
theorem Post.shift {α : Type} {K : PySem.W.Frag} {mg : Str → Option Value} {T : List Nat} {W : WX} {x y : Cf} {r : R α} {Q : α → Cf → Prop} (f : Fr T x y) (h : Post K mg T W x r Q) : Post K mg T W y r Q := by
  cases r with
  | ok a ρ => exact fun z e g s => h z e (f.trans g) s
  | exc c pl ρ => exact fun z cls dx e g s w => h z cls dx e (f.trans g) s w
  | bad => exact h
theorem Post.mono {α : Type} {K : PySem.W.Frag} {mg : Str → Option Value} {T : List Nat} {W : WX} {x : Cf} {r : R α} {Q Q' : α → Cf → Prop} (h : Post K mg T W x r Q) (i : ∀ a y, Fr T x y → RSt K y → Q a y → Q' a y) : Post K mg T W x r Q' := by
  cases r with
  | ok a ρ => exact fun z e g s => i a z g s (h z e g s)
  | exc c pl ρ => exact h
  | bad => exact h
/-- from a state to one with new things alone -/
theorem Post.here {α : Type} {K : PySem.W.Frag} {mg : Str → Option Value} {T : List Nat} {W : WX} {x y : Cf} {a : α} {Q : α → Cf → Prop} (h : Post K mg T W x (.ok a x.r) Q) (e : Ext x y) (s : RSt K x) : Q a y := h y e.r (e.fr T) (e.rst s)
/-! ### expressions -/
section
variable (X : Cx) (W : WX) (T : List Nat)
def EvE (te : TE) (f : M D) : Prop := ∀ (x : Cf) (Q : VK), RSt X.K x → Post X.K X.mg T W x (f x.r) (fun d y => y.s = x.s → ∀ v, Rep X.K y.F v d → Q v y.H) → te x.s x.H Q
def EvT (tt : TT) (f : M Bool) : Prop := ∀ (x : Cf) (Q : Bool → Hp → Prop), RSt X.K x → Post X.K X.mg T W x (f x.r) (fun b y => y.s = x.s → Q b y.H) → tt x.s x.H Q
/-- a new list -/
def FreshAt (K : PySem.W.Frag) (y : Cf) (p : Addr) (us : List V) (ds : List D) : Prop := y.H p = some (.lst us) ∧ y.F p = none ∧ RepL K y.F us ds
def EvL (te : TE) (f : M (List D)) : Prop := ∀ (x : Cf) (Q : VK), RSt X.K x →
  Post X.K X.mg T W x (f x.r) (fun ds y => y.s = x.s → ∀ p us, FreshAt X.K y p us ds → x.H p = none → (∀ i k, ¬ CelAt y i k p) → Q (.ref p) y.H) → te x.s x.H Q
inductive Arg where | val (d : D) | late (j : Nat)
inductive ArgR (K : PySem.W.Frag) (y : Cf) : V → Arg → Prop
  | val {v : V} {d : D} : Rep K y.F v d → ArgR K y v (.val d)
  | late {v : V} {j : Nat} : y.s[j]? = some (some v) → ArgR K y v (.late j)
inductive ArgsR (K : PySem.W.Frag) (y : Cf) : List V → List Arg → Prop
  | nil : ArgsR K y [] []
  | cons {v : V} {vs : List V} {a : Arg} {as : List Arg} : ArgR K y v a → ArgsR K y vs as → ArgsR K y (v :: vs) (a :: as)
def EvA (ta : TA) (f : M (List Arg)) : Prop := ∀ (x : Cf) (Q : List V → Hp → Prop), RSt X.K x → Post X.K X.mg T W x (f x.r) (fun as y => y.s = x.s → ∀ vs, ArgsR X.K y vs as → Q vs y.H) → ta x.s x.H Q
structure SE (e : Expr) (f : M D) : Prop where
  ex : ∃ te, PE X e te ∧ EvE X W T te f
structure ST (e : Expr) (f : M Bool) : Prop where
  ex : ∃ te, PT X e te ∧ EvT X W T te f
structure SL (e : Expr) (f : M (List D)) : Prop where
  ex : ∃ te, PE X e te ∧ EvL X W T te f
structure SA (es : List Expr) (f : M (List Arg)) : Prop where
  ex : ∃ ta, PA X es ta ∧ EvA X W T ta f
end
section
variable {X : Cx} {W : WX} {T : List Nat}
theorem ArgR.shift {K : PySem.W.Frag} {x y : Cf} {v : V} {a : Arg} (f : Same x.F y.F) (hs : y.s = x.s) (h : ArgR K x v a) : ArgR K y v a := by
  cases h with
  | val r => exact .val (r.mono f)
  | late q => exact .late (by rw [hs]; exact q)
/-- the first part runs, then what follows -/
theorem EvE.bind {α : Type} {te : TE} {f : M D} {k : D → M α} {x : Cf} {Q : VK} {Qf : α → Cf → Prop} (h : EvE X W T te f) (s : RSt X.K x) (p : Post X.K X.mg T W x (mB f k x.r) Qf)
    (n : ∀ d y, Fr T x y → RSt X.K y → y.s = x.s → (∀ v, Rep X.K y.F v d → Post X.K X.mg T W y (k d y.r) Qf → Q v y.H)) : te x.s x.H Q := by
  refine h x Q s ?_
  cases e : f x.r with
  | ok d ρ =>
    intro y hy fr sy hs v hv
    refine n d y fr sy hs v hv (Post.shift fr ?_)
    have e2 : mB f k x.r = k d y.r := by unfold mB; rw [e, hy]
    rw [← e2]; exact p
  | exc c pl ρ =>
    have e2 : mB f k x.r = .exc c pl ρ := by unfold mB; rw [e]
    rw [e2] at p; exact p
  | bad =>
    have e2 : mB f k x.r = .bad := by unfold mB; rw [e]
    rw [e2] at p; exact p
theorem EvT.bind {α : Type} {te : TT} {f : M Bool} {k : Bool → M α} {x : Cf} {Q : Bool → Hp → Prop} {Qf : α → Cf → Prop} (h : EvT X W T te f) (s : RSt X.K x) (p : Post X.K X.mg T W x (mB f k x.r) Qf)
    (n : ∀ d y, Fr T x y → RSt X.K y → y.s = x.s → Post X.K X.mg T W y (k d y.r) Qf → Q d y.H) : te x.s x.H Q := by
  refine h x Q s ?_
  cases e : f x.r with
  | ok d ρ =>
    intro y hy fr sy hs
    refine n d y fr sy hs (Post.shift fr ?_)
    have e2 : mB f k x.r = k d y.r := by unfold mB; rw [e, hy]
    rw [← e2]; exact p
  | exc c pl ρ =>
    have e2 : mB f k x.r = .exc c pl ρ := by unfold mB; rw [e]
    rw [e2] at p; exact p
  | bad =>
    have e2 : mB f k x.r = .bad := by unfold mB; rw [e]
    rw [e2] at p; exact p
theorem EvA.bind {α : Type} {te : TA} {f : M (List Arg)} {k : List Arg → M α} {x : Cf} {Q : List V → Hp → Prop} {Qf : α → Cf → Prop} (h : EvA X W T te f) (s : RSt X.K x) (p : Post X.K X.mg T W x (mB f k x.r) Qf)
    (n : ∀ d y, Fr T x y → RSt X.K y → y.s = x.s → (∀ vs, ArgsR X.K y vs d → Post X.K X.mg T W y (k d y.r) Qf → Q vs y.H)) : te x.s x.H Q := by
  refine h x Q s ?_
  cases e : f x.r with
  | ok d ρ =>
    intro y hy fr sy hs vs hv
    refine n d y fr sy hs vs hv (Post.shift fr ?_)
    have e2 : mB f k x.r = k d y.r := by unfold mB; rw [e, hy]
    rw [← e2]; exact p
  | exc c pl ρ =>
    have e2 : mB f k x.r = .exc c pl ρ := by unfold mB; rw [e]
    rw [e2] at p; exact p
  | bad =>
    have e2 : mB f k x.r = .bad := by unfold mB; rw [e]
    rw [e2] at p; exact p
end
end FL
namespace FL
open PySem PySem.Spec L2
section
variable {X : Cx} {W : WX} {T : List Nat}
/-! ### names, constants -/
def xVar (i : Nat) : M D := fun r => match r[i]? with
  | some (.val d) => .ok d r
  | _ => .bad
theorem se_var (i : Nat) {x : Str} {pos : Pos} (hN : X.N[i]? = some x := by rfl) (hv : Vis X.env.scope x := by first | exact Or.inl rfl | exact Or.inr (Or.inl rfl) | exact Or.inr (Or.inr rfl)) (hd : (x == ("__debug__" : Str)) = false := by decide)
    (hc : (x == ("__classdict__" : Str)) = false := by decide) : SE X W T (.Name x pos) (xVar i) := by
  refine ⟨_, pe_var (i := i) hN hv hd hc, fun x Q s p => ?_⟩
  unfold xVar at p
  split at p
  · rename_i d e
    obtain ⟨v, h1, h2⟩ := s.val i d e
    exact ⟨v, h1, p x rfl (Fr.refl T x) s rfl v h2⟩
  · exact p.elim
def xC (d : D) : M D := mP d
theorem ev_const {v : V} {d : D} (h : ∀ F, Rep X.K F v d) : EvE X W T (tC v) (xC d) := fun x Q s p => p x rfl (Fr.refl T x) s rfl v (h _)
theorem se_int {i : Int} {j pos} : SE X W T (.Constant (.int i) j pos) (xC (.int i)) := ⟨_, pe_int, ev_const fun _ => .int i⟩
theorem se_bl {b : Bool} {j pos} : SE X W T (.Constant (.bool b) j pos) (xC (.bl b)) := ⟨_, pe_bl, ev_const fun _ => .bl b⟩
theorem se_non {j pos} : SE X W T (.Constant .none j pos) (xC .non) := ⟨_, pe_non, ev_const fun _ => .non⟩
theorem se_str {x : Str} {j pos} : SE X W T (.Constant (.str x) j pos) (xC (.str x)) := ⟨_, pe_str, ev_const fun _ => .str x⟩
/-- a constant of the module -/
theorem se_glob {x : Str} {v : V} {u : Value} {d : D} {pos : Pos} (hm : X.mg x = some u) (r : RelV v u) (h : ∀ F, Rep X.K F v d) (hg : Gl X x := by rfl) (hd : (x == ("__debug__" : Str)) = false := by decide) : SE X W T (.Name x pos) (xC d) :=
  ⟨_, pe_glob hg hm r hd, ev_const h⟩
/-! ### two operands -/
/-- what a rule by values gives on data -/
def OpD (K : PySem.W.Frag) (r : R2) (op : D → D → Option D) : Prop :=
  ∀ (x : Cf) (v u : V) (d e z : D) (Q : VK), RSt K x → Rep K x.F v d → Rep K x.F u e → op d e = some z → (∀ y w, Ext x y → Rep K y.F w z → Q w y.H) → r v u x.H Q
def x2 (op : D → D → Option D) (a b : M D) : M D := mB a fun d => mB b fun e => mO (op d e)
theorem ev_op {r : R2} {op : D → D → Option D} {ta tb : TE} {fa fb : M D} (ho : OpD X.K r op) (ha : EvE X W T ta fa) (hb : EvE X W T tb fb) : EvE X W T (tOp r ta tb) (x2 op fa fb) := by
  intro x Q s p
  refine ha.bind s p fun d y f1 s1 e1 v hv p1 => ?_
  show tb x.s y.H _
  rw [← e1]
  refine hb.bind s1 p1 fun e z f2 s2 e2 u hu p2 => ?_
  cases q : op d e with
  | none => rw [q] at p2; exact p2.elim
  | some w =>
    rw [q] at p2
    exact ho z v u d e w Q s2 (hv.mono f2.ff) hu q fun y2 w2 ex hw => Post.here p2 ex s2 (ex.s.trans (e2.trans e1)) w2 hw
theorem se_op {op : Operator} {r : R2} {o : D → D → Option D} {a b : Expr} {pos : Pos} {fa fb : M D} (hr : OpR X (binaryOp op) r) (ho : OpD X.K r o) (ha : SE X W T a fa) (hb : SE X W T b fb) : SE X W T (.BinOp a op b pos) (x2 o fa fb) := by
  obtain ⟨ta, pa, ea⟩ := ha.ex
  obtain ⟨tb, pb, eb⟩ := hb.ex
  exact ⟨_, pe_op hr pa pb, ev_op ho ea eb⟩
theorem se_cmp {op : CmpOp} {r : R2} {o : D → D → Option D} {a b : Expr} {pos : Pos} {fa fb : M D} (hr : OpR X (compareOp op) r) (ho : OpD X.K r o) (ha : SE X W T a fa) (hb : SE X W T b fb) (hm : behindInMarks op b = false) : SE X W T (.Compare a [op] [b] pos) (x2 o fa fb) := by
  obtain ⟨ta, pa, ea⟩ := ha.ex
  obtain ⟨tb, pb, eb⟩ := hb.ex
  exact ⟨_, pe_cmpR hr pa pb hm, ev_op ho ea eb⟩
/-- the answer is a truth -/
def mT (m : M D) : M Bool := mB m fun d => match d with
  | .bl b => mP b
  | _ => fun _ => .bad
theorem ev_test {te : TE} {f : M D} (h : EvE X W T te f) : EvT X W T (tTest te) (mT f) := by
  intro x Q s p
  refine h.bind s p fun d y f1 s1 e1 v hv p1 => ?_
  cases d with
  | bl b =>
    cases hv
    exact ⟨b, rfl, p1 y rfl (Fr.refl T y) s1 (e1)⟩
  | _ => exact p1.elim
theorem st_cmp {op : CmpOp} {r : R2} {o : D → D → Option D} {a b : Expr} {pos : Pos} {fa fb : M D} (hr : OpR X (compareOp op) r) (ho : OpD X.K r o) (ha : SE X W T a fa) (hb : SE X W T b fb) (hm : behindInMarks op b = false) : ST X W T (.Compare a [op] [b] pos) (mT (x2 o fa fb)) := by
  obtain ⟨ta, pa, ea⟩ := ha.ex
  obtain ⟨tb, pb, eb⟩ := hb.ex
  exact ⟨_, pt_cmpR hr pa pb hm, ev_test (ev_op ho ea eb)⟩
end
end FL
namespace FL
open PySem PySem.Spec L2
section
variable {X : Cx} {W : WX} {T : List Nat} {K : PySem.W.Frag}
/-! ### arithmetic -/
theorem OpD.or {r r' : R2} {o o' : D → D → Option D} (h : OpD K r o) (h' : OpD K r' o') : OpD K (fun x y H Q => r x y H Q ∨ r' x y H Q) (fun d e => match o d e with | some z => some z | none => o' d e) := by
  intro x v u d e z Q s hv hu q k
  cases w : o d e with
  | some z' =>
    simp only [w] at q
    cases q
    exact .inl (h x v u d e _ Q s hv hu w k)
  | none =>
    simp only [w] at q
    exact .inr (h' x v u d e z Q s hv hu q k)
def intOp (c : Int → Int → Bool) (g : Int → Int → Int) : D → D → Option D
  | .int i, .int j => if c i j then some (.int (g i j)) else none
  | _, _ => none
theorem opd_int {C : Int → Int → Prop} {c : Int → Int → Bool} {g : Int → Int → Int} (h : ∀ i j, c i j = true → C i j) : OpD K (rI C fun i j => .int (g i j)) (intOp c g) := by
  intro x v u d e z Q s hv hu q k
  cases hv <;> try (simp [intOp] at q)
  cases hu <;> try (simp [intOp] at q)
  obtain ⟨q1, q2⟩ := q
  exact ⟨_, _, rfl, rfl, h _ _ q1, k x _ (Ext.refl s) (by rw [← q2]; exact .int _)⟩
theorem opd_int0 {g : Int → Int → Int} : OpD K (rI0 fun i j => .int (g i j)) (intOp (fun _ _ => true) g) := by
  intro x v u d e z Q s hv hu q k
  cases hv <;> try (simp [intOp] at q)
  cases hu <;> try (simp [intOp] at q)
  exact ⟨_, _, rfl, rfl, k x _ (Ext.refl s) (by rw [← q]; exact .int _)⟩
def cmpOp (g : Int → Int → Bool) : D → D → Option D
  | .int i, .int j => some (.bl (g i j))
  | _, _ => none
theorem opd_cmp {g : Int → Int → Bool} : OpD K (rI0 fun i j => .bl (g i j)) (cmpOp g) := by
  intro x v u d e z Q s hv hu q k
  cases hv <;> try (simp [cmpOp] at q)
  cases hu <;> try (simp [cmpOp] at q)
  exact ⟨_, _, rfl, rfl, k x _ (Ext.refl s) (by rw [← q]; exact .bl _)⟩
theorem opd_new {x : Cf} {Q : VK} {d : D} {o : Addr → V} (s : RSt K x) : True := trivial
theorem ext_tup {x : Cf} {vs : List V} {ds : List D} {p : Addr} (s : RSt K x) (hp : x.H p = none) (r : RepL K x.F vs ds) :
    Ext x ⟨upd x.F p (.tup vs), upd x.H p (.tup vs), x.s, x.r⟩ ∧ Rep K (upd x.F p (.tup vs)) (.ref p) (.tup ds) :=
  ⟨Ext.new s hp, .tup (SqT.of upd_same) (r.mono (same_upd (s.sub.free hp)))⟩
theorem ext_lst {x : Cf} {vs : List V} {ds : List D} {p : Addr} (s : RSt K x) (hp : x.H p = none) (r : RepL K x.F vs ds) :
    Ext x ⟨upd x.F p (.lst vs), upd x.H p (.lst vs), x.s, x.r⟩ ∧ Rep K (upd x.F p (.lst vs)) (.ref p) (.lst ds) :=
  ⟨Ext.new s hp, .lst upd_same (r.mono (same_upd (s.sub.free hp)))⟩
/-- the longest list or tuple that is reckoned with -/
def most : Nat := 100000
theorem most_line : most ≤ sizeLine := by rw [sizeLine_eq]; decide
theorem of_most {n : Nat} (h : decide (n ≤ most) = true) : n ≤ sizeLine := Nat.le_trans (of_decide_eq_true h) most_line
def catT : D → D → Option D
  | .tup a, .tup b => if decide (a.length + b.length ≤ most) then some (.tup (a ++ b)) else none
  | _, _ => none
theorem opd_catT : OpD K (rCatA K) catT := by
  intro x v u d e z Q s hv hu q k
  cases hv <;> try (simp [catT] at q)
  cases hu <;> try (simp [catT] at q)
  rename_i a vs ds ha ra b us es hb rb
  obtain ⟨q1, q2⟩ := q
  subst q2
  have ta := sameT s.sub ha
  have tb := sameT s.sub hb
  refine ⟨a, b, vs, us, rfl, rfl, ta, tb, ?_, fun e => ?_, fun _ e => ?_, fun _ _ p hp => ?_⟩
  · rw [ra.length, rb.length]; exact Nat.le_trans q1 most_line
  · subst e
    cases ra
    exact k x _ (Ext.refl s) (.tup hb rb)
  · subst e
    cases rb
    refine k x _ (Ext.refl s) ?_
    rw [List.append_nil]
    exact .tup ha ra
  · obtain ⟨h1, h2⟩ := ext_tup s hp (ra.app rb)
    exact k _ _ h1 h2
def catL : D → D → Option D
  | .lst a, .lst b => if decide (a.length + b.length ≤ most) then some (.lst (a ++ b)) else none
  | _, _ => none
theorem opd_catL : OpD K rCat catL := by
  intro x v u d e z Q s hv hu q k
  cases hv <;> try (simp [catL] at q)
  cases hu <;> try (simp [catL] at q)
  rename_i a vs ds ha ra b us es hb rb
  obtain ⟨q1, q2⟩ := q
  subst q2
  refine ⟨a, b, vs, us, rfl, rfl, s.sub _ _ ha, s.sub _ _ hb, ?_, fun p hp => ?_⟩
  · rw [ra.length, rb.length]; exact Nat.le_trans q1 most_line
  · obtain ⟨h1, h2⟩ := ext_lst s hp (ra.app rb)
    exact k _ _ h1 h2
def catS : D → D → Option D
  | .str a, .str b => if decide (a.length + b.length ≤ most) then some (.str (a ++ b)) else none
  | _, _ => none
theorem opd_catS : OpD K (fun x y H Q => ∃ i j, x = .str i ∧ y = .str j ∧ i.length + j.length ≤ sizeLine ∧ Q (.str (i ++ j)) H) catS := by
  intro x v u d e z Q s hv hu q k
  cases hv <;> try (simp [catS] at q)
  cases hu <;> try (simp [catS] at q)
  obtain ⟨q1, q2⟩ := q
  subst q2
  exact ⟨_, _, rfl, rfl, Nat.le_trans q1 most_line, k x _ (Ext.refl s) (.str _)⟩
def orD (o o' : D → D → Option D) : D → D → Option D := fun d e => match o d e with
  | some z => some z
  | none => o' d e
def addI : D → D → Option D := intOp (fun _ _ => true) fun i j => i + j
def addD : D → D → Option D
  | .int i, .int j => some (.int (i + j))
  | .tup a, .tup b => if decide (a.length + b.length ≤ most) then some (.tup (a ++ b)) else none
  | .lst a, .lst b => if decide (a.length + b.length ≤ most) then some (.lst (a ++ b)) else none
  | .str a, .str b => if decide (a.length + b.length ≤ most) then some (.str (a ++ b)) else none
  | _, _ => none
theorem OpD.le {r : R2} {o o' : D → D → Option D} (h : OpD K r o) (e : ∀ d e z, o' d e = some z → o d e = some z) : OpD K r o' := fun x v u d e' z Q s hv hu q k => h x v u d e' z Q s hv hu (e _ _ _ q) k
theorem opd_add : OpD K (fun x y H Q => rI0 (fun i j => .int (i + j)) x y H Q ∨ rCatA K x y H Q ∨ rCat x y H Q ∨ ∃ i j, x = .str i ∧ y = .str j ∧ i.length + j.length ≤ sizeLine ∧ Q (.str (i ++ j)) H) addD := by
  refine (OpD.or (opd_int0 (g := fun i j => i + j)) (OpD.or opd_catT (OpD.or opd_catL opd_catS))).le fun d e z h => ?_
  cases d <;> cases e <;> simp [addD] at h <;> simp [intOp, catT, catL, catS, h]
theorem se_add {a b : Expr} {pos : Pos} {fa fb : M D} (ha : SE X W T a fa) (hb : SE X W T b fb) : SE X W T (.BinOp a .Add b pos) (x2 addD fa fb) :=
  se_op (OpR.or op_add (OpR.or op_catA (OpR.or op_cat op_add_str))) opd_add ha hb
def subD : D → D → Option D
  | .int i, .int j => some (.int (i - j))
  | _, _ => none
theorem se_sub {a b : Expr} {pos : Pos} {fa fb : M D} (ha : SE X W T a fa) (hb : SE X W T b fb) : SE X W T (.BinOp a .Sub b pos) (x2 subD fa fb) :=
  se_op op_sub ((opd_int0 (g := fun i j => i - j)).le fun d e z h => by cases d <;> cases e <;> simp [subD] at h <;> simp [intOp, h]) ha hb
/-- a bound for the figures of a number -/
def bitsOf (i : Int) : Nat := i.natAbs.log2 + 1
theorem lt_bitsOf (i : Int) : i.natAbs < 2 ^ bitsOf i := Nat.lt_log2_self
def mulOk (i j : Int) : Bool := decide (bitsOf i + bitsOf j ≤ 134217728)
theorem mulOk_x {i j : Int} (h : mulOk i j = true) : CMulX i j := mulx_ok (lt_bitsOf i) (lt_bitsOf j) (of_decide_eq_true h)
/-- so many times a row -/
def timesL (ds : List D) (k : Nat) : List D := (List.replicate k ds).flatten
theorem RepL.times {F : Hp} {vs : List V} {ds : List D} (r : RepL K F vs ds) : ∀ k : Nat, RepL K F (List.replicate k vs).flatten (timesL ds k)
  | 0 => .nil
  | k + 1 => by
    unfold timesL
    rw [List.replicate_succ, List.replicate_succ, List.flatten_cons, List.flatten_cons]
    exact r.app (RepL.times r k)
def mulD : D → D → Option D
  | .int i, .int j => if mulOk i j then some (.int (i * j)) else none
  | .tup a, .int k => if decide (a ≠ [] ∧ 2 ≤ k ∧ k ≤ 1000 ∧ a.length ≤ 1000) then some (.tup (timesL a k.toNat)) else none
  | .lst a, .int k => if decide (-1000 ≤ k ∧ k ≤ 1000 ∧ a.length ≤ 1000) then some (.lst (timesL a k.toNat)) else none
  | _, _ => none
theorem opd_mul : OpD K (fun x y H Q => rI CMulX (fun i j => .int (i * j)) x y H Q ∨ rRepT K x y H Q ∨ rRep x y H Q) mulD := by
  intro x v u d e z Q s hv hu q k
  cases hv <;> cases hu <;> simp [mulD] at q
  · obtain ⟨q1, q2⟩ := q
    subst q2
    exact .inl ⟨_, _, rfl, rfl, mulOk_x q1, k x _ (Ext.refl s) (.int _)⟩
  · rename_i a vs ds ha ra n
    obtain ⟨⟨q0, q1, q2, q3⟩, q4⟩ := q
    subst q4
    refine .inr (.inl ⟨a, n, vs, rfl, rfl, sameT s.sub ha, ?_, q1, q2, ?_, fun p hp => ?_⟩)
    · intro e
      subst e
      cases ra
      exact q0 rfl
    · rw [ra.length]; exact q3
    · obtain ⟨h1, h2⟩ := ext_tup s hp (ra.times n.toNat)
      exact k _ _ h1 h2
  · rename_i a vs ds ha ra n
    obtain ⟨⟨q1, q2, q3⟩, q4⟩ := q
    subst q4
    refine .inr (.inr ⟨a, n, vs, rfl, rfl, s.sub _ _ ha, by omega, by omega, ?_, fun p hp => ?_⟩)
    · rw [ra.length, sizeLine_eq]
      have h1 : n.toNat ≤ 1000 := by omega
      exact Nat.le_trans (Nat.mul_le_mul q3 h1) (by decide)
    · obtain ⟨h1, h2⟩ := ext_lst s hp (ra.times n.toNat)
      exact k _ _ h1 h2
theorem se_mul {a b : Expr} {pos : Pos} {fa fb : M D} (ha : SE X W T a fa) (hb : SE X W T b fb) : SE X W T (.BinOp a .Mult b pos) (x2 mulD fa fb) :=
  se_op (OpR.or op_mulX (OpR.or op_repT op_rep)) opd_mul ha hb
def divOk (j : Int) : Bool := decide (0 < j ∧ bitsOf j ≤ 9000)
def divD : D → D → Option D
  | .int i, .int j => if divOk j then some (.int (i / j)) else if decide (j ≠ 0 ∧ j.natAbs < 1073741824) then some (.int (i.fdiv j)) else none
  | _, _ => none
theorem opd_div : OpD K (fun x y H Q => rI CDivW (fun i j => .int (i / j)) x y H Q ∨ rI CDivN (fun i j => .int (i.fdiv j)) x y H Q) divD := by
  refine (OpD.or (opd_int (C := CDivW) (c := fun _ j => divOk j) (g := fun i j => i / j) fun i j h => ?_) (opd_int (C := CDivN) (c := fun _ j => decide (j ≠ 0 ∧ j.natAbs < 1073741824)) (g := fun i j => i.fdiv j) fun i j h => (of_decide_eq_true h : j ≠ 0 ∧ j.natAbs < 1073741824))).le fun d e z h => ?_
  · obtain ⟨h1, h2⟩ := of_decide_eq_true h
    exact ⟨h1, by unfold bitsOf at h2; omega⟩
  · cases d <;> cases e <;> simp [divD] at h
    rename_i i j
    by_cases c : divOk j = true
    · simp [c] at h; simp [intOp, c, h]
    · simp [c] at h; simp [intOp, c, h]
theorem se_div {a b : Expr} {pos : Pos} {fa fb : M D} (ha : SE X W T a fa) (hb : SE X W T b fb) : SE X W T (.BinOp a .FloorDiv b pos) (x2 divD fa fb) :=
  se_op (OpR.or op_fdivW op_fdivN) opd_div ha hb
def modD : D → D → Option D
  | .int i, .int j => if decide (0 < j) then some (.int (i % j)) else if decide (j ≠ 0) then some (.int (i.fmod j)) else none
  | _, _ => none
theorem opd_mod : OpD K (fun x y H Q => rI (fun _ j => 0 < j) (fun i j => .int (i % j)) x y H Q ∨ rI (fun _ j => j ≠ 0) (fun i j => .int (i.fmod j)) x y H Q) modD := by
  refine (OpD.or (opd_int (C := fun _ j => 0 < j) (c := fun _ j => decide (0 < j)) (g := fun i j => i % j) fun i j h => of_decide_eq_true h) (opd_int (C := fun _ j => j ≠ 0) (c := fun _ j => decide (j ≠ 0)) (g := fun i j => i.fmod j) fun i j h => of_decide_eq_true h)).le fun d e z h => ?_
  cases d <;> cases e <;> simp [modD] at h
  rename_i i j
  by_cases c : 0 < j
  · simp [c] at h; simp [intOp, c, h]
  · simp [c] at h; simp [intOp, c, h]
theorem se_mod {a b : Expr} {pos : Pos} {fa fb : M D} (ha : SE X W T a fa) (hb : SE X W T b fb) : SE X W T (.BinOp a .Mod b pos) (x2 modD fa fb) :=
  se_op (OpR.or op_mod op_modN) opd_mod ha hb
def powD : D → D → Option D
  | .int i, .int j => if decide (0 ≤ j ∧ j ≤ 1000 ∧ i.natAbs < 2 ^ 64) then some (.int (i ^ j.toNat)) else none
  | _, _ => none
theorem se_pow {a b : Expr} {pos : Pos} {fa fb : M D} (ha : SE X W T a fa) (hb : SE X W T b fb) : SE X W T (.BinOp a .Pow b pos) (x2 powD fa fb) :=
  se_op op_pow ((opd_int (C := CPow) (c := fun i j => decide (0 ≤ j ∧ j ≤ 1000 ∧ i.natAbs < 2 ^ 64)) (g := fun i j => i ^ j.toNat) fun i j h => by
    obtain ⟨h1, h2, h3⟩ := of_decide_eq_true h
    exact ⟨h1, by omega, h3⟩).le fun d e z h => by cases d <;> cases e <;> simp [powD] at h <;> simp [intOp, h]) ha hb
/-! ### comparisons -/
def ltD : D → D → Option D
  | .int i, .int j => some (.bl (decide (i < j)))
  | _, _ => none
def leD : D → D → Option D
  | .int i, .int j => some (.bl (decide (i ≤ j)))
  | _, _ => none
def gtD : D → D → Option D
  | .int i, .int j => some (.bl (decide (j < i)))
  | _, _ => none
def geD : D → D → Option D
  | .int i, .int j => some (.bl (decide (j ≤ i)))
  | _, _ => none
theorem opd_lt : OpD K (rI0 fun i j => .bl (decide (i < j))) ltD := opd_cmp.le fun d e z h => by cases d <;> cases e <;> simp [ltD] at h <;> simp [cmpOp, h]
theorem opd_le : OpD K (rI0 fun i j => .bl (decide (i ≤ j))) leD := opd_cmp.le fun d e z h => by cases d <;> cases e <;> simp [leD] at h <;> simp [cmpOp, h]
theorem opd_gt : OpD K (rI0 fun i j => .bl (decide (j < i))) gtD := opd_cmp.le fun d e z h => by cases d <;> cases e <;> simp [gtD] at h <;> simp [cmpOp, h]
theorem opd_ge : OpD K (rI0 fun i j => .bl (decide (j ≤ i))) geD := opd_cmp.le fun d e z h => by cases d <;> cases e <;> simp [geD] at h <;> simp [cmpOp, h]
mutual
def toPy : D → Option PyData
  | .non => some .none
  | .bl b => some (.bool b)
  | .int i => some (.int i)
  | .str x => some (.str x)
  | .tup ds => (toPys ds).map .tuple
  | .lst ds => (toPys ds).map .list
  | .scr _ => none
  | .dct _ => none
  | .opq _ => none
  | .dfn _ => none
def toPys : List D → Option (List PyData)
  | [] => some []
  | d :: ds => match toPy d, toPys ds with
    | some p, some ps => some (p :: ps)
    | _, _ => none
end
mutual
theorem dp_of {F H : Hp} (e : Same F H) : ∀ {v : V} {d : D} {p : PyData}, Rep K F v d → toPy d = some p → Dp K H v p
  | _, _, _, .non, h => by cases h; exact .non
  | _, _, _, .bl b, h => by cases h; exact .bl b
  | _, _, _, .int i, h => by cases h; exact .int i
  | _, _, _, .str x, h => by cases h; exact .str x
  | _, _, _, .tup (ds := ds) ha r, h => by
    unfold toPy at h
    cases q : toPys ds with
    | none => rw [q] at h; cases h
    | some ps => rw [q] at h; cases h; exact .tup (sameT e ha) (dps_of e r q)
  | _, _, _, .lst (ds := ds) ha r, h => by
    unfold toPy at h
    cases q : toPys ds with
    | none => rw [q] at h; cases h
    | some ps => rw [q] at h; cases h; exact .lst (SqL.of (e _ _ ha)) (dps_of e r q)
  | _, _, _, .scr _ _, h => by cases h
  | _, _, _, .dct _ _, h => by cases h
  | _, _, _, .opq _, h => by cases h
  | _, _, _, .dfn _, h => by cases h
theorem dps_of {F H : Hp} (e : Same F H) : ∀ {vs : List V} {ds : List D} {ps : List PyData}, RepL K F vs ds → toPys ds = some ps → DpAll K H vs ps
  | _, _, _, .nil, h => by cases h; exact .nil
  | _, _, _, .cons (d := d) (ds := ds) h1 h2, h => by
    unfold toPys at h
    cases q : toPy d with
    | none => rw [q] at h; cases h
    | some p =>
      cases q2 : toPys ds with
      | none => rw [q, q2] at h; cases h
      | some ps => rw [q, q2] at h; cases h; exact .cons (dp_of e h1 q) (dps_of e h2 q2)
end
def eqB (d e : D) : Option Bool := match toPy d, toPy e with
  | some p, some q => if SeqAt.shaped p && SeqAt.shaped q then some (PyData.eqv p q) else none
  | _, _ => none
def eqD (d e : D) : Option D := (eqB d e).map .bl
def neD (d e : D) : Option D := (eqB d e).map fun b => .bl (!b)
theorem eqB_of {d e : D} {b : Bool} (h : eqB d e = some b) : ∃ p q, toPy d = some p ∧ toPy e = some q ∧ SeqAt.shaped p = true ∧ SeqAt.shaped q = true ∧ PyData.eqv p q = b := by
  unfold eqB at h
  split at h
  · rename_i p q hp hq
    split at h
    · rename_i c
      obtain ⟨c1, c2⟩ := Bool.and_eq_true_iff.mp c
      exact ⟨p, q, hp, hq, c1, c2, Option.some.inj h⟩
    · cases h
  · cases h
theorem opd_eq : OpD K (rEqD K) eqD := by
  intro x v u d e z Q s hv hu q k
  unfold eqD at q
  cases w : eqB d e with
  | none => rw [w] at q; cases q
  | some b =>
    rw [w] at q
    cases q
    obtain ⟨p, p', h1, h2, h3, h4, h5⟩ := eqB_of w
    refine ⟨p, p', dp_of s.sub hv h1, dp_of s.sub hu h2, h3, h4, k x _ (Ext.refl s) ?_⟩
    rw [h5]; exact .bl b
theorem opd_ne : OpD K (rNeD K) neD := by
  intro x v u d e z Q s hv hu q k
  unfold neD at q
  cases w : eqB d e with
  | none => rw [w] at q; cases q
  | some b =>
    rw [w] at q
    cases q
    obtain ⟨p, p', h1, h2, h3, h4, h5⟩ := eqB_of w
    refine ⟨p, p', dp_of s.sub hv h1, dp_of s.sub hu h2, h3, h4, k x _ (Ext.refl s) ?_⟩
    rw [h5]; exact .bl _
def isNon : D → Bool
  | .non => true
  | _ => false
theorem non_of {F : Hp} {v : V} {d : D} (h : Rep K F v d) (hq : ∀ w, d ≠ .opq w) : decide (v = .non) = isNon d := by
  cases h <;> simp [isNon]
  exact absurd rfl (hq v)
def isNoneD : D → D → Option D
  | .opq _, _ => none
  | d, .non => some (.bl (isNon d))
  | _, _ => none
def notNoneD : D → D → Option D
  | .opq _, _ => none
  | d, .non => some (.bl (!isNon d))
  | _, _ => none
theorem isNoneD_of {d e z : D} (q : isNoneD d e = some z) : e = .non ∧ (∀ w, d ≠ .opq w) ∧ z = .bl (isNon d) := by
  cases d <;> cases e <;> simp [isNoneD, isNon] at q ⊢ <;> exact q.symm
theorem notNoneD_of {d e z : D} (q : notNoneD d e = some z) : e = .non ∧ (∀ w, d ≠ .opq w) ∧ z = .bl (!isNon d) := by
  cases d <;> cases e <;> simp [notNoneD, isNon] at q ⊢ <;> exact q.symm
theorem opd_isN : OpD K (fun x y H Q => y = .non ∧ Q (.bl (decide (x = .non))) H) isNoneD := by
  intro x v u d e z Q s hv hu q k
  obtain ⟨h1, h2, h3⟩ := isNoneD_of q
  subst h1 h3
  cases hu
  refine ⟨rfl, k x _ (Ext.refl s) ?_⟩
  rw [non_of hv h2]
  exact .bl _
theorem opd_notN : OpD K (fun x y H Q => y = .non ∧ Q (.bl (!decide (x = .non))) H) notNoneD := by
  intro x v u d e z Q s hv hu q k
  obtain ⟨h1, h2, h3⟩ := notNoneD_of q
  subst h1 h3
  cases hu
  refine ⟨rfl, k x _ (Ext.refl s) ?_⟩
  rw [non_of hv h2]
  exact .bl _
/-- the comparisons as values, then as tests -/
theorem se_lt {a b : Expr} {pos : Pos} {fa fb : M D} (ha : SE X W T a fa) (hb : SE X W T b fb) : SE X W T (.Compare a [.Lt] [b] pos) (x2 ltD fa fb) := se_cmp op_lt opd_lt ha hb (nomark _)
theorem se_le {a b : Expr} {pos : Pos} {fa fb : M D} (ha : SE X W T a fa) (hb : SE X W T b fb) : SE X W T (.Compare a [.LtE] [b] pos) (x2 leD fa fb) := se_cmp op_le opd_le ha hb (nomark _)
theorem se_gt {a b : Expr} {pos : Pos} {fa fb : M D} (ha : SE X W T a fa) (hb : SE X W T b fb) : SE X W T (.Compare a [.Gt] [b] pos) (x2 gtD fa fb) := se_cmp op_gt opd_gt ha hb (nomark _)
theorem se_ge {a b : Expr} {pos : Pos} {fa fb : M D} (ha : SE X W T a fa) (hb : SE X W T b fb) : SE X W T (.Compare a [.GtE] [b] pos) (x2 geD fa fb) := se_cmp op_ge opd_ge ha hb (nomark _)
theorem se_eq {a b : Expr} {pos : Pos} {fa fb : M D} (hu : X.A.units + 64 < cLine) (ha : SE X W T a fa) (hb : SE X W T b fb) : SE X W T (.Compare a [.Eq] [b] pos) (x2 eqD fa fb) := se_cmp (op_eqD hu) opd_eq ha hb (nomark _)
theorem se_ne {a b : Expr} {pos : Pos} {fa fb : M D} (hu : X.A.units + 64 < cLine) (ha : SE X W T a fa) (hb : SE X W T b fb) : SE X W T (.Compare a [.NotEq] [b] pos) (x2 neD fa fb) := se_cmp (op_neD hu) opd_ne ha hb (nomark _)
theorem se_isN {a b : Expr} {pos : Pos} {fa fb : M D} (ha : SE X W T a fa) (hb : SE X W T b fb) : SE X W T (.Compare a [.Is] [b] pos) (x2 isNoneD fa fb) := se_cmp op_isN opd_isN ha hb (nomark _)
theorem se_notN {a b : Expr} {pos : Pos} {fa fb : M D} (ha : SE X W T a fa) (hb : SE X W T b fb) : SE X W T (.Compare a [.IsNot] [b] pos) (x2 notNoneD fa fb) := se_cmp op_notN opd_notN ha hb (nomark _)
theorem st_lt {a b : Expr} {pos : Pos} {fa fb : M D} (ha : SE X W T a fa) (hb : SE X W T b fb) : ST X W T (.Compare a [.Lt] [b] pos) (mT (x2 ltD fa fb)) := st_cmp op_lt opd_lt ha hb (nomark _)
theorem st_le {a b : Expr} {pos : Pos} {fa fb : M D} (ha : SE X W T a fa) (hb : SE X W T b fb) : ST X W T (.Compare a [.LtE] [b] pos) (mT (x2 leD fa fb)) := st_cmp op_le opd_le ha hb (nomark _)
theorem st_gt {a b : Expr} {pos : Pos} {fa fb : M D} (ha : SE X W T a fa) (hb : SE X W T b fb) : ST X W T (.Compare a [.Gt] [b] pos) (mT (x2 gtD fa fb)) := st_cmp op_gt opd_gt ha hb (nomark _)
theorem st_ge {a b : Expr} {pos : Pos} {fa fb : M D} (ha : SE X W T a fa) (hb : SE X W T b fb) : ST X W T (.Compare a [.GtE] [b] pos) (mT (x2 geD fa fb)) := st_cmp op_ge opd_ge ha hb (nomark _)
theorem st_eq {a b : Expr} {pos : Pos} {fa fb : M D} (hu : X.A.units + 64 < cLine) (ha : SE X W T a fa) (hb : SE X W T b fb) : ST X W T (.Compare a [.Eq] [b] pos) (mT (x2 eqD fa fb)) := st_cmp (op_eqD hu) opd_eq ha hb (nomark _)
theorem st_ne {a b : Expr} {pos : Pos} {fa fb : M D} (hu : X.A.units + 64 < cLine) (ha : SE X W T a fa) (hb : SE X W T b fb) : ST X W T (.Compare a [.NotEq] [b] pos) (mT (x2 neD fa fb)) := st_cmp (op_neD hu) opd_ne ha hb (nomark _)
theorem st_isN {a b : Expr} {pos : Pos} {fa fb : M D} (ha : SE X W T a fa) (hb : SE X W T b fb) : ST X W T (.Compare a [.Is] [b] pos) (mT (x2 isNoneD fa fb)) := st_cmp op_isN opd_isN ha hb (nomark _)
theorem st_notN {a b : Expr} {pos : Pos} {fa fb : M D} (ha : SE X W T a fa) (hb : SE X W T b fb) : ST X W T (.Compare a [.IsNot] [b] pos) (mT (x2 notNoneD fa fb)) := st_cmp op_notN opd_notN ha hb (nomark _)
end
end FL
namespace FL
open PySem PySem.Spec L2
section
variable {X : Cx} {W : WX} {T : List Nat} {K : PySem.W.Frag}
/-! ### truth -/
def truB : D → Option Bool
  | .non => some false
  | .bl b => some b
  | .int i => some (i != 0)
  | .str x => if decide (x.length ≤ most) then some ((x.length : Int) != 0) else none
  | .tup ds => some (!ds.isEmpty)
  | .lst ds => some (!ds.isEmpty)
  | .scr ds => some (!ds.isEmpty)
  | .dct kvs => some (!kvs.isEmpty)
  | .opq _ => none
  | .dfn _ => none
theorem RepL.empty {F : Hp} {vs : List V} {ds : List D} (r : RepL K F vs ds) : vs.isEmpty = ds.isEmpty := by cases r <;> rfl
theorem tru_of {F H : Hp} {v : V} {d : D} {k : Bool} (e : Same F H) (h : Rep K F v d) (q : truB d = some k) : TruV K v H k := by
  cases h with
  | non => exact (Option.some.inj q).symm
  | bl b => exact (Option.some.inj q).symm
  | int i => exact (Option.some.inj q).symm
  | str x =>
    simp only [truB] at q
    split at q
    · rename_i c
      exact ⟨of_most c, (Option.some.inj q).symm⟩
    · cases q
  | tup h r => exact .inr (.inl ⟨_, sameT e h, by rw [r.empty]; exact (Option.some.inj q).symm⟩)
  | lst h r => exact .inl ⟨_, SqL.of (e _ _ h), by rw [r.empty]; exact (Option.some.inj q).symm⟩
  | scr h r => exact .inl ⟨_, e.seq h, by rw [r.empty]; exact (Option.some.inj q).symm⟩
  | dct h r => exact .inr (.inr ⟨_, e _ _ h, by
      have : ∀ {a : List (Key × V)} {b : List (Key × D)}, RepK K F a b → a.isEmpty = b.isEmpty := fun r => by cases r <;> rfl
      rw [this r]; exact (Option.some.inj q).symm⟩)
  | opq v => cases q
  | dfn h => cases q
def mTru (m : M D) : M Bool := mB m fun d => mO (truB d)
theorem mTru_run {te : TE} {f : M D} (h : EvE X W T te f) {x : Cf} {Q : VK} {α : Type} {k : Bool → D → M α} {Qf : α → Cf → Prop} (s : RSt X.K x) (p : Post X.K X.mg T W x (mB f (fun d => mB (mO (truB d)) fun b => k b d) x.r) Qf)
    (n : ∀ b d y, Fr T x y → RSt X.K y → y.s = x.s → (∀ v, Rep X.K y.F v d → TruV X.K v y.H b → Post X.K X.mg T W y (k b d y.r) Qf → Q v y.H)) : te x.s x.H Q := by
  refine h.bind s p fun d y f1 s1 e1 v hv p1 => ?_
  cases q : truB d with
  | none => rw [q] at p1; exact p1.elim
  | some b =>
    rw [q] at p1
    exact n b d y f1 s1 e1 v hv (tru_of s1.sub hv q) p1
theorem ev_truth {te : TE} {f : M D} (h : EvE X W T te f) : EvT X W T (fun σ H Q => te σ H fun x H' => ∃ k, TruV X.K x H' k ∧ Q k H') (mTru f) := by
  intro x Q s p
  refine h.bind s p fun d y f1 s1 e1 v hv p1 => ?_
  cases q : truB d with
  | none => rw [q] at p1; exact p1.elim
  | some b =>
    rw [q] at p1
    exact ⟨b, tru_of s1.sub hv q, p1 y rfl (Fr.refl T y) s1 e1⟩
theorem st_of {e : Expr} {f : M D} (h : SE X W T e f) (he : ∀ whole, isTrue e X.env whole = (do let v ← whole; standAt e.pos; holding [v] (truthy v)) := by intro _; rfl) : ST X W T e (mTru f) := by
  obtain ⟨te, pe, ev⟩ := h.ex
  exact ⟨_, pt_truth pe he, ev_truth ev⟩
/-! ### and, or, not -/
def xAnd (a b : M D) : M D := mB a fun d => mB (mO (truB d)) fun k => if k then b else mP d
def xOr (a b : M D) : M D := mB a fun d => mB (mO (truB d)) fun k => if k then mP d else b
def xNot (a : M D) : M D := mB a fun d => mB (mO (truB d)) fun k => mP (.bl (!k))
theorem se_one {op} {a : Expr} {pos : Pos} {f : M D} (h : SE X W T a f) : SE X W T (.BoolOp op [a] pos) f := by
  obtain ⟨te, pe, ev⟩ := h.ex
  exact ⟨_, pe_one pe, ev⟩
theorem se_and {a b : Expr} {rest : List Expr} {pos : Pos} {fa fb : M D} (ha : SE X W T a fa) (hb : SE X W T (.BoolOp .And (b :: rest) pos) fb) : SE X W T (.BoolOp .And (a :: b :: rest) pos) (xAnd fa fb) := by
  obtain ⟨ta, pa, ea⟩ := ha.ex
  obtain ⟨tb, pb, eb⟩ := hb.ex
  refine ⟨_, pe_andT pa pb, fun x Q s p => ?_⟩
  refine mTru_run ea s p fun k d y f1 s1 e1 v hv tv p1 => ⟨k, tv, ?_⟩
  cases k with
  | true =>
    show tb x.s y.H Q
    rw [← e1]
    exact eb y Q s1 (p1.mono fun a z _ _ q e => q (e.trans e1))
  | false => exact p1 y rfl (Fr.refl T y) s1 e1 v hv
theorem se_or {a b : Expr} {rest : List Expr} {pos : Pos} {fa fb : M D} (ha : SE X W T a fa) (hb : SE X W T (.BoolOp .Or (b :: rest) pos) fb) : SE X W T (.BoolOp .Or (a :: b :: rest) pos) (xOr fa fb) := by
  obtain ⟨ta, pa, ea⟩ := ha.ex
  obtain ⟨tb, pb, eb⟩ := hb.ex
  refine ⟨_, pe_orT pa pb, fun x Q s p => ?_⟩
  refine mTru_run ea s p fun k d y f1 s1 e1 v hv tv p1 => ⟨k, tv, ?_⟩
  cases k with
  | true => exact p1 y rfl (Fr.refl T y) s1 e1 v hv
  | false =>
    show tb x.s y.H Q
    rw [← e1]
    exact eb y Q s1 (p1.mono fun a z _ _ q e => q (e.trans e1))
theorem se_not {a : Expr} {pos : Pos} {fa : M D} (ha : SE X W T a fa) : SE X W T (.UnaryOp .Not a pos) (xNot fa) := by
  obtain ⟨ta, pa, ea⟩ := ha.ex
  refine ⟨_, pe_notT pa, fun x Q s p => ?_⟩
  exact mTru_run ea s p fun k d y f1 s1 e1 v hv tv p1 => ⟨k, tv, p1 y rfl (Fr.refl T y) s1 e1 _ (.bl _)⟩
structure SW (X : Cx) (W : WX) (T : List Nat) (e : Expr) (f : M Bool) : Prop where
  ex : ∃ te, PW X e te ∧ EvT X W T te f
def tAndM (a b : M Bool) : M Bool := mB a fun k => if k then b else mP false
def tOrM (a b : M Bool) : M Bool := mB a fun k => if k then mP true else b
def tNotM (a : M Bool) : M Bool := mB a fun k => mP (!k)
theorem sw_and1 {a : Expr} {pos : Pos} {f : M Bool} (h : ST X W T a f) : SW X W T (.BoolOp .And [a] pos) f := by
  obtain ⟨te, pe, ev⟩ := h.ex
  exact ⟨_, pw_and1 pe, ev⟩
theorem sw_or1 {a : Expr} {pos : Pos} {f : M Bool} (h : ST X W T a f) : SW X W T (.BoolOp .Or [a] pos) f := by
  obtain ⟨te, pe, ev⟩ := h.ex
  exact ⟨_, pw_or1 pe, ev⟩
theorem sw_and {a b : Expr} {rest : List Expr} {pos : Pos} {fa fb : M Bool} (ha : ST X W T a fa) (hb : SW X W T (.BoolOp .And (b :: rest) pos) fb) : SW X W T (.BoolOp .And (a :: b :: rest) pos) (tAndM fa fb) := by
  obtain ⟨ta, pa, ea⟩ := ha.ex
  obtain ⟨tb, pb, eb⟩ := hb.ex
  refine ⟨_, pw_and pa pb, fun x Q s p => ?_⟩
  refine ea.bind s p fun k y f1 s1 e1 p1 => ?_
  cases k with
  | true =>
    show tb x.s y.H Q
    rw [← e1]
    exact eb y Q s1 (p1.mono fun a z _ _ q e => q (e.trans e1))
  | false => exact p1 y rfl (Fr.refl T y) s1 e1
theorem sw_or {a b : Expr} {rest : List Expr} {pos : Pos} {fa fb : M Bool} (ha : ST X W T a fa) (hb : SW X W T (.BoolOp .Or (b :: rest) pos) fb) : SW X W T (.BoolOp .Or (a :: b :: rest) pos) (tOrM fa fb) := by
  obtain ⟨ta, pa, ea⟩ := ha.ex
  obtain ⟨tb, pb, eb⟩ := hb.ex
  refine ⟨_, pw_or pa pb, fun x Q s p => ?_⟩
  refine ea.bind s p fun k y f1 s1 e1 p1 => ?_
  cases k with
  | true => exact p1 y rfl (Fr.refl T y) s1 e1
  | false =>
    show tb x.s y.H Q
    rw [← e1]
    exact eb y Q s1 (p1.mono fun a z _ _ q e => q (e.trans e1))
theorem SW.pt {e : Expr} {f : M Bool} (h : SW X W T e f) : ST X W T e f := by
  obtain ⟨te, pe, ev⟩ := h.ex
  exact ⟨_, pe.pt, ev⟩
theorem st_not {a : Expr} {pos : Pos} {f : M Bool} (h : ST X W T a f) : ST X W T (.UnaryOp .Not a pos) (tNotM f) := by
  obtain ⟨te, pe, ev⟩ := h.ex
  refine ⟨_, pt_not pe, fun x Q s p => ?_⟩
  exact ev.bind s p fun k y f1 s1 e1 p1 => p1 y rfl (Fr.refl T y) s1 e1
def xIf (c : M Bool) (a b : M D) : M D := mB c fun k => if k then a else b
theorem se_if {c a b : Expr} {pos : Pos} {fc : M Bool} {fa fb : M D} (hc : ST X W T c fc) (ha : SE X W T a fa) (hb : SE X W T b fb) : SE X W T (.IfExp c a b pos) (xIf fc fa fb) := by
  obtain ⟨tc, pc, ec⟩ := hc.ex
  obtain ⟨ta, pa, ea⟩ := ha.ex
  obtain ⟨tb, pb, eb⟩ := hb.ex
  refine ⟨_, pe_ifExp pc pa pb, fun x Q s p => ?_⟩
  refine ec.bind s p fun k y f1 s1 e1 p1 => ?_
  cases k with
  | true =>
    show ta x.s y.H Q
    rw [← e1]
    exact ea y Q s1 (p1.mono fun a z _ _ q e => q (e.trans e1))
  | false =>
    show tb x.s y.H Q
    rw [← e1]
    exact eb y Q s1 (p1.mono fun a z _ _ q e => q (e.trans e1))
def negD : D → Option D
  | .int i => some (.int (-i))
  | _ => none
def x1 (o : D → Option D) (a : M D) : M D := mB a fun d => mO (o d)
theorem se_neg {a : Expr} {pos : Pos} {fa : M D} (ha : SE X W T a fa) : SE X W T (.UnaryOp .USub a pos) (x1 negD fa) := by
  obtain ⟨ta, pa, ea⟩ := ha.ex
  refine ⟨_, pe_un un_neg pa, fun x Q s p => ?_⟩
  refine ea.bind s p fun d y f1 s1 e1 v hv p1 => ?_
  cases d <;> try exact p1.elim
  cases hv
  exact ⟨_, rfl, p1 y rfl (Fr.refl T y) s1 e1 _ (.int _)⟩
/-! ### a chain of two comparisons -/
def xChain (o o' : D → D → Option D) (a b c : M D) : M D := mB a fun d => mB b fun e => mB (mO (o d e)) fun z => match z with
  | .bl k => if k then mB c fun g => mO (o' e g) else mP (.bl false)
  | _ => fun _ => .bad
theorem ev_chain {r r' : R2} {o o' : D → D → Option D} {ta tb tc : TE} {fa fb fc : M D} (ho : OpD X.K r o) (ho' : OpD X.K r' o')
    (ea : EvE X W T ta fa) (eb : EvE X W T tb fb) (ec : EvE X W T tc fc) : EvE X W T (tChain r r' ta tb tc) (xChain o o' fa fb fc) := by
  intro x Q s p
  refine ea.bind s p fun d y f1 s1 e1 v hv p1 => ?_
  show tb x.s y.H _
  rw [← e1]
  refine eb.bind s1 p1 fun e z f2 s2 e2 u hu p2 => ?_
  cases q : o d e with
  | none => rw [q] at p2; exact p2.elim
  | some w =>
    rw [q] at p2
    refine ho z v u d e w _ s2 (hv.mono f2.ff) hu q fun y2 w2 ex hw => ?_
    have p3 := p2.shift (ex.fr T)
    have s3 := ex.rst s2
    have e3 : y2.s = x.s := ex.s.trans (e2.trans e1)
    cases w <;> try exact p3.elim
    rename_i k
    cases hw
    refine ⟨k, rfl, ?_⟩
    cases k with
    | false =>
      show Q (.bl false) y2.H
      exact p3 y2 ex.r (Fr.refl T y2) s3 e3 _ (.bl _)
    | true =>
      show tc y.s y2.H _
      have e4 : y.s = y2.s := e1.trans e3.symm
      rw [e4]
      have p4 : Post X.K X.mg T W y2 (mB fc (fun g => mO (o' e g)) y2.r) (fun d y => y.s = x.s → ∀ v, Rep X.K y.F v d → Q v y.H) := by
        have : y2.r = z.r := ex.r
        rw [this]; exact p3
      refine ec.bind s3 p4 fun g y5 f5 s5 e5 w5 hw5 p5 => ?_
      cases q5 : o' e g with
      | none => rw [q5] at p5; exact p5.elim
      | some w6 =>
        rw [q5] at p5
        exact ho' y5 u w5 e g w6 Q s5 (hu.mono (ex.ff.trans f5.ff)) hw5 q5 fun y6 w7 ex6 hw7 => Post.here p5 ex6 s5 (ex6.s.trans (e5.trans e3)) w7 hw7
theorem se_chain {op op' : CmpOp} {r r' : R2} {o o' : D → D → Option D} {a b c : Expr} {pos : Pos} {fa fb fc : M D} (hr : OpR X (compareOp op) r) (hr' : OpR X (compareOp op') r') (ho : OpD X.K r o) (ho' : OpD X.K r' o')
    (ha : SE X W T a fa) (hb : SE X W T b fb) (hc : SE X W T c fc) (hm : lastMarks [op, op'] [b, c] = false := by with_unfolding_all rfl) : SE X W T (.Compare a [op, op'] [b, c] pos) (xChain o o' fa fb fc) := by
  obtain ⟨ta, pa, ea⟩ := ha.ex
  obtain ⟨tb, pb, eb⟩ := hb.ex
  obtain ⟨tc, pc, ec⟩ := hc.ex
  exact ⟨_, pe_chain hr hr' pa pb pc hm, ev_chain ho ho' ea eb ec⟩
theorem st_chain {op op' : CmpOp} {r r' : R2} {o o' : D → D → Option D} {a b c : Expr} {pos : Pos} {fa fb fc : M D} (hr : OpR X (compareOp op) r) (hr' : OpR X (compareOp op') r') (ho : OpD X.K r o) (ho' : OpD X.K r' o')
    (ha : SE X W T a fa) (hb : SE X W T b fb) (hc : SE X W T c fc) (hm : lastMarks [op, op'] [b, c] = false := by with_unfolding_all rfl) : ST X W T (.Compare a [op, op'] [b, c] pos) (mT (xChain o o' fa fb fc)) := by
  obtain ⟨ta, pa, ea⟩ := ha.ex
  obtain ⟨tb, pb, eb⟩ := hb.ex
  obtain ⟨tc, pc, ec⟩ := hc.ex
  exact ⟨_, pt_chain hr hr' pa pb pc hm, ev_test (ev_chain ho ho' ea eb ec)⟩
/-! ### rows of values -/
def EvD (X : Cx) (W : WX) (T : List Nat) (ta : TA) (f : M (List D)) : Prop := ∀ (x : Cf) (Q : List V → Hp → Prop), RSt X.K x → Post X.K X.mg T W x (f x.r) (fun ds y => y.s = x.s → ∀ vs, RepL X.K y.F vs ds → Q vs y.H) → ta x.s x.H Q
structure SD (X : Cx) (W : WX) (T : List Nat) (es : List Expr) (f : M (List D)) : Prop where
  ex : ∃ ta, PA X es ta ∧ EvD X W T ta f
def dCons (a : M D) (r : M (List D)) : M (List D) := mB a fun d => mB r fun ds => mP (d :: ds)
theorem sd_nil : SD X W T [] (mP []) := ⟨_, pa_nil, fun x Q s p => p x rfl (Fr.refl T x) s rfl [] .nil⟩
theorem EvD.bind {α : Type} {te : TA} {f : M (List D)} {k : List D → M α} {x : Cf} {Q : List V → Hp → Prop} {Qf : α → Cf → Prop} (h : EvD X W T te f) (s : RSt X.K x) (p : Post X.K X.mg T W x (mB f k x.r) Qf)
    (n : ∀ d y, Fr T x y → RSt X.K y → y.s = x.s → (∀ vs, RepL X.K y.F vs d → Post X.K X.mg T W y (k d y.r) Qf → Q vs y.H)) : te x.s x.H Q := by
  refine h x Q s ?_
  cases e : f x.r with
  | ok d ρ =>
    intro y hy fr sy hs vs hv
    refine n d y fr sy hs vs hv (Post.shift fr ?_)
    have e2 : mB f k x.r = k d y.r := by unfold mB; rw [e, hy]
    rw [← e2]; exact p
  | exc c pl ρ =>
    have e2 : mB f k x.r = .exc c pl ρ := by unfold mB; rw [e]
    rw [e2] at p; exact p
  | bad =>
    have e2 : mB f k x.r = .bad := by unfold mB; rw [e]
    rw [e2] at p; exact p
theorem sd_cons {e : Expr} {es : List Expr} {fa : M D} {fr : M (List D)} (ha : SE X W T e fa) (hr : SD X W T es fr) (hs : starEach (e :: es) X.env = (false, eval e X.env) :: starEach es X.env := by rfl) : SD X W T (e :: es) (dCons fa fr) := by
  obtain ⟨ta, pa, ea⟩ := ha.ex
  obtain ⟨tr, pr, er⟩ := hr.ex
  refine ⟨_, pa_cons pa pr hs, fun x Q s p => ?_⟩
  refine ea.bind s p fun d y f1 s1 e1 v hv p1 => ?_
  show tr x.s y.H _
  rw [← e1]
  exact er.bind s1 p1 fun ds z f2 s2 e2 vs hvs p2 => p2 z rfl (Fr.refl T z) s2 (e2.trans e1) (v :: vs) (.cons (hv.mono f2.ff) hvs)
def xTup (m : M (List D)) : M D := mB m fun ds => if decide (ds.length ≤ most) then mP (.tup ds) else fun _ => .bad
theorem se_tup {es : List Expr} {x1 pos} {f : M (List D)} (h : SD X W T es f) : SE X W T (.Tuple es x1 pos) (xTup f) := by
  obtain ⟨ta, pa, ea⟩ := h.ex
  refine ⟨_, pe_tup pa, fun x Q s p => ?_⟩
  refine ea.bind s p fun ds y f1 s1 e1 vs hv p1 => ?_
  by_cases c : decide (ds.length ≤ most) = true
  · rw [if_pos c] at p1
    refine ⟨by rw [hv.length]; exact of_most c, fun q hq => ?_⟩
    obtain ⟨h1, h2⟩ := ext_tup s1 hq hv
    exact Post.here p1 h1 s1 (h1.s.trans e1) _ h2
  · rw [if_neg c] at p1
    exact p1.elim
/-- a list that is new -/
def lLst (m : M (List D)) : M (List D) := mB m fun ds => if decide (ds.length ≤ most) then mP ds else fun _ => .bad
theorem RSt.at {x : Cf} (s : RSt K x) {i : Nat} {k : CK} {p : Addr} (h : CelAt x i k p) : ∃ ds us, x.r[i]? = some (.cel k ds) ∧ RepL K x.F us ds ∧ x.H p = some (.lst us) ∧ x.F p = none := by
  obtain ⟨⟨ds, h1⟩, h2⟩ := h
  obtain ⟨q, h3, us, h4, h5, h6⟩ := s.cel i k ds h1
  rw [h2] at h3
  cases h3
  exact ⟨ds, us, h1, h4, h5, h6⟩
theorem not_cel {x : Cf} {p : Addr} (s : RSt K x) (hp : x.H p = none) : ∀ i k, ¬ CelAt x i k p := fun i k h => by
  obtain ⟨ds, us, _, _, h5, _⟩ := s.at h
  rw [hp] at h5; cases h5
theorem el_lst {es : List Expr} {pos : Pos} {f : M (List D)} (h : SD X W T es f) : SL X W T (.List es pos) (lLst f) := by
  obtain ⟨ta, pa, ea⟩ := h.ex
  refine ⟨_, pe_lst pa, fun x Q s p => ?_⟩
  refine ea.bind s p fun ds y f1 s1 e1 vs hv p1 => ?_
  by_cases c : decide (ds.length ≤ most) = true
  · rw [if_pos c] at p1
    refine ⟨by rw [hv.length]; exact of_most c, fun q hq => ?_⟩
    have ex := Ext.raw (o := .lst vs) s1 hq
    exact Post.here p1 ex s1 (ex.s.trans e1) q vs ⟨upd_same, s1.sub.free hq, hv⟩ (f1.dm q hq) (fun i k z => not_cel s1 hq i k z)
  · rw [if_neg c] at p1
    exact p1.elim
/-- a new list, frozen -/
def xFz (m : M (List D)) : M D := mB m fun ds => mP (.lst ds)
theorem EvL.fz {te : TE} {f : M (List D)} (ev : EvL X W T te f) : EvE X W T te (xFz f) := by
  refine fun x Q s p => ev x Q s ?_
  cases e : f x.r with
  | ok ds ρ =>
    have e2 : xFz f x.r = .ok (.lst ds) ρ := by unfold xFz mB mP; rw [e]
    rw [e2] at p
    intro y hy fr sy hs q us hq hn hc
    obtain ⟨h1, h2, h3⟩ := hq
    have hz : Fr T x ⟨upd y.F q (.lst us), y.H, y.s, y.r⟩ := ⟨fr.ln, fr.ff.trans (same_upd h2), fr.dm, fun a o h => by
        by_cases ha : a = q
        · subst ha; exact .inr (.inl hn)
        · exact fr.nw a o (by rw [← h]; exact (upd_ne ha).symm), fr.hp, fr.cc, fr.un⟩
    refine p ⟨upd y.F q (.lst us), y.H, y.s, y.r⟩ hy hz ⟨fun a o h => ?_, sy.len, fun i d h => ?_, fun i k es h => ?_, sy.dis⟩ hs (.ref q) (.lst upd_same (h3.mono (same_upd h2)))
    · by_cases ha : a = q
      · subst ha
        have h' : upd y.F a (HO.lst us) a = some o := h
        rw [upd_same] at h'
        cases h'
        exact h1
      · exact sy.sub a o (by rw [← h]; exact (upd_ne ha).symm)
    · obtain ⟨v, g1, g2⟩ := sy.val i d h
      exact ⟨v, g1, g2.mono (same_upd h2)⟩
    · obtain ⟨r, g1, ws, g2, g3, g4⟩ := sy.cel i k es h
      refine ⟨r, g1, ws, g2.mono (same_upd h2), g3, ?_⟩
      have : r ≠ q := fun z => hc i k ⟨⟨es, h⟩, by rw [← z]; exact g1⟩
      show upd y.F q _ r = none
      rw [upd_ne this]; exact g4
  | exc c pl ρ =>
    have e2 : xFz f x.r = .exc c pl ρ := by unfold xFz mB; rw [e]
    rw [e2] at p; exact p
  | bad =>
    have e2 : xFz f x.r = .bad := by unfold xFz mB; rw [e]
    rw [e2] at p; exact p
theorem SL.se {e : Expr} {f : M (List D)} (h : SL X W T e f) : SE X W T e (xFz f) := by
  obtain ⟨te, pe, ev⟩ := h.ex
  exact ⟨te, pe, ev.fz⟩
end
end FL
namespace FL
open PySem PySem.Spec L2
section
variable {X : Cx} {W : WX} {T : List Nat} {K : PySem.W.Frag}
/-! ### places -/
theorem RepL.atI {F : Hp} {vs : List V} {ds : List D} (r : RepL K F vs ds) {i : Int} {d : D} (h : L2.atI ds i = some d) : ∃ v, L2.atI vs i = some v ∧ Rep K F v d := by
  unfold L2.atI at h ⊢
  rw [r.length]
  cases q : ixN ds.length i with
  | none => rw [q] at h; cases h
  | some j => rw [q] at h; exact r.get h
def ixD : D → D → Option D
  | .tup ds, .int i => L2.atI ds i
  | .lst ds, .int i => L2.atI ds i
  | .scr ds, .int i => L2.atI ds i
  | .str z, .int i => if decide (z.length ≤ most) then (L2.atI z.cps.toList i).map fun c => .str ⟨#[c]⟩ else none
  | _, _ => none
theorem opd_ix : OpD K (rIx K) ixD := by
  intro x v u d e z Q s hv hu q k
  obtain ⟨i, rfl⟩ : ∃ i, e = .int i := by cases d <;> cases e <;> simp [ixD] at q <;> exact ⟨_, rfl⟩
  cases hu
  cases hv <;> try (simp [ixD] at q; done)
  · simp only [ixD] at q
    split at q
    · rename_i y c
      cases w : L2.atI y.cps.toList i with
      | none => rw [w] at q; cases q
      | some c' =>
        rw [w] at q
        cases q
        exact .inr (.inr ⟨_, _, _, rfl, rfl, of_most c, w, k x _ (Ext.refl s) (.str _)⟩)
    · cases q
  · rename_i ha r
    obtain ⟨w, h1, h2⟩ := r.atI q
    exact .inr (.inl ⟨_, _, _, _, rfl, rfl, sameT s.sub ha, h1, k x _ (Ext.refl s) h2⟩)
  · rename_i ha r
    obtain ⟨w, h1, h2⟩ := r.atI q
    exact .inl ⟨_, _, _, _, rfl, rfl, SqL.of (s.sub _ _ ha), h1, k x _ (Ext.refl s) h2⟩
  · rename_i ha r
    obtain ⟨w, h1, h2⟩ := r.atI q
    exact .inl ⟨_, _, _, _, rfl, rfl, s.sub.seq ha, h1, k x _ (Ext.refl s) h2⟩
theorem se_ix {a b : Expr} {pos : Pos} {fa fb : M D} (ha : SE X W T a fa) (hb : SE X W T b fb) (hs : PlainIx b := by intro _ _; rfl) : SE X W T (.Subscript a b pos) (x2 ixD fa fb) := by
  obtain ⟨ta, pa, ea⟩ := ha.ex
  obtain ⟨tb, pb, eb⟩ := hb.ex
  exact ⟨_, pe_ix ix_seq pa pb hs, ev_op opd_ix ea eb⟩
/-! ### cuts -/
structure SO (X : Cx) (W : WX) (T : List Nat) (e : Option Expr) (f : M (Option Int)) : Prop where
  ex : ∃ t, PO X e t ∧ ∀ (x : Cf) (Q : Option Int → Hp → Prop), RSt X.K x → Post X.K X.mg T W x (f x.r) (fun o y => y.s = x.s → Q o y.H) → t x.s x.H Q
theorem so_none : SO X W T none (mP none) := ⟨_, po_none, fun x Q s p => p x rfl (Fr.refl T x) s rfl⟩
def oInt (m : M D) : M (Option Int) := mB m fun d => match d with
  | .int i => mP (some i)
  | _ => fun _ => .bad
theorem so_some {e : Expr} {f : M D} (h : SE X W T e f) : SO X W T (some e) (oInt f) := by
  obtain ⟨te, pe, ev⟩ := h.ex
  refine ⟨_, po_some pe, fun x Q s p => ?_⟩
  refine ev.bind s p fun d y f1 s1 e1 v hv p1 => ?_
  cases d <;> try exact p1.elim
  cases hv
  exact ⟨_, rfl, p1 y rfl (Fr.refl T y) s1 e1⟩
def cutDs (ds : List D) (lo hi : Option Int) : List D := (ds.drop (HT.sIx ds.length 0 lo)).take (HT.sIx ds.length ds.length hi - HT.sIx ds.length 0 lo)
theorem RepL.cut {F : Hp} {vs : List V} {ds : List D} (r : RepL K F vs ds) (lo hi : Option Int) : RepL K F (cutV vs lo hi) (cutDs ds lo hi) := by
  unfold cutV cutDs
  rw [r.length]
  exact (r.drop _).take _
def cutD (d : D) (lo hi : Option Int) : Option D := match d with
  | .tup ds => some (.tup (cutDs ds lo hi))
  | .lst ds => some (.lst (cutDs ds lo hi))
  | .scr ds => some (.lst (cutDs ds lo hi))
  | _ => none
def xCut (a : M D) (lo hi : M (Option Int)) : M D := mB a fun d => mB lo fun l => mB hi fun h => mO (cutD d l h)
theorem whole_cut {ds : List D} {lo hi : Option Int} (h : HT.sIx ds.length 0 lo = 0 ∧ HT.sIx ds.length ds.length hi = ds.length) : cutDs ds lo hi = ds := by
  unfold cutDs
  rw [h.1, h.2, Nat.sub_zero, List.drop_zero, List.take_length]
theorem se_cut {a : Expr} {lo hi : Option Expr} {p2 pos : Pos} {fa : M D} {fl fh : M (Option Int)} (ha : SE X W T a fa) (hl : SO X W T lo fl) (hh : SO X W T hi fh) : SE X W T (.Subscript a (.Slice lo hi none p2) pos) (xCut fa fl fh) := by
  obtain ⟨ta, pa, ea⟩ := ha.ex
  obtain ⟨tl, pl, el⟩ := hl.ex
  obtain ⟨th, ph, eh⟩ := hh.ex
  refine ⟨_, pe_slice (SlR.or sl_tupA sl_list) pa pl ph, fun x Q s p => ?_⟩
  refine ea.bind s p fun d y f1 s1 e1 v hv p1 => ?_
  show tl x.s y.H _
  rw [← e1]
  refine el y _ s1 ?_
  cases q1 : fl y.r with
  | bad => have e2 : mB fl (fun l => mB fh fun h => mO (cutD d l h)) y.r = .bad := by { unfold mB; rw [q1] }; rw [e2] at p1; exact p1.elim
  | exc c pl ρ =>
    have e2 : mB fl (fun l => mB fh fun h => mO (cutD d l h)) y.r = .exc c pl ρ := by unfold mB; rw [q1]
    rw [e2] at p1; exact p1
  | ok l ρ =>
    have e2 : mB fl (fun l => mB fh fun h => mO (cutD d l h)) y.r = mB fh (fun h => mO (cutD d l h)) ρ := by rw [mB]; simp only [q1]
    rw [e2] at p1
    intro z hz fz sz ez
    rw [← hz] at p1
    have p2 := p1.shift fz
    show th y.s z.H _
    rw [← ez]
    refine eh z _ sz ?_
    cases q2 : fh z.r with
    | bad => have e3 : mB fh (fun h => mO (cutD d l h)) z.r = .bad := by { unfold mB; rw [q2] }; rw [e3] at p2; exact p2.elim
    | exc c pl ρ =>
      have e3 : mB fh (fun h => mO (cutD d l h)) z.r = .exc c pl ρ := by unfold mB; rw [q2]
      rw [e3] at p2; exact p2
    | ok h ρ' =>
      have e3 : mB fh (fun h => mO (cutD d l h)) z.r = mO (cutD d l h) ρ' := by rw [mB]; simp only [q2]
      rw [e3] at p2
      intro w hw fw sw ew
      have hs : w.s = x.s := ew.trans (ez.trans e1)
      cases q3 : cutD d l h with
      | none => rw [q3] at p2; exact p2.elim
      | some g =>
        rw [q3, ← hw] at p2
        have p3 := p2.shift fw
        have hv' := hv.mono (fz.ff.trans fw.ff)
        cases hv' <;> try (simp [cutD] at q3; done)
        · rename_i vs ds ha r
          cases q3
          refine .inl ⟨_, _, rfl, sameT sw.sub ha, fun c => ?_, fun _ q hq => ?_⟩
          · rw [r.length] at c
            refine p3 w rfl (Fr.refl T w) sw hs _ ?_
            rw [whole_cut c]
            exact .tup ha r
          · obtain ⟨h1, h2⟩ := ext_tup sw hq (r.cut l h)
            exact Post.here p3 h1 sw (h1.s.trans hs) _ h2
        · rename_i vs ds ha r
          cases q3
          refine .inr ⟨_, _, rfl, SqL.of (sw.sub _ _ ha), fun q hq => ?_⟩
          obtain ⟨h1, h2⟩ := ext_lst sw hq (r.cut l h)
          exact Post.here p3 h1 sw (h1.s.trans hs) _ h2
        · rename_i vs ds ha r
          cases q3
          refine .inr ⟨_, _, rfl, sw.sub.seq ha, fun q hq => ?_⟩
          obtain ⟨h1, h2⟩ := ext_lst sw hq (r.cut l h)
          exact Post.here p3 h1 sw (h1.s.trans hs) _ h2
/-! ### a list of one's own, read as a value -/
mutual
/-- no list within -/
def noLst : D → Bool
  | .non => true
  | .bl _ => true
  | .int _ => true
  | .str _ => true
  | .tup ds => noLsts ds
  | .lst _ => false
  | .scr _ => false
  | .dct _ => false
  | .opq _ => true
  | .dfn _ => true
def noLsts : List D → Bool
  | [] => true
  | d :: ds => noLst d && noLsts ds
end
/-- without the address p -/
def cutH (F : Hp) (p : Addr) : Hp := fun a => if a = p then none else F a
theorem cutH_ne {F : Hp} {p a : Addr} (h : a ≠ p) : cutH F p a = F a := if_neg h
theorem cutH_same {F : Hp} {p : Addr} : cutH F p p = none := if_pos rfl
theorem sqT_cut {F : Hp} {p a : Addr} {vs us : List V} (hp : F p = some (.lst us)) (h : SqT K F a vs) : SqT K (cutH F p) a vs := by
  rcases h with (h | ⟨o, h⟩) | h
  · refine .inl (.inl ?_)
    rw [cutH_ne (by rintro rfl; rw [hp] at h; cases h)]
    exact h
  · refine .inl (.inr ⟨o, ?_⟩)
    rw [cutH_ne (by rintro rfl; rw [hp] at h; cases h)]
    exact h
  · exact .inr h
mutual
theorem rep_cut {F : Hp} {p : Addr} {us : List V} (hp : F p = some (.lst us)) : ∀ {v : V} {d : D}, Rep K F v d → noLst d = true → Rep K (cutH F p) v d
  | _, _, .non, _ => .non
  | _, _, .bl b, _ => .bl b
  | _, _, .int i, _ => .int i
  | _, _, .str x, _ => .str x
  | _, _, .tup h r, e => .tup (sqT_cut hp h) (repL_cut hp r e)
  | _, _, .lst _ _, e => nomatch e
  | _, _, .scr _ _, e => nomatch e
  | _, _, .dct _ _, e => nomatch e
  | _, _, .opq v, _ => .opq v
  | _, _, .dfn h, _ => .dfn h
theorem repL_cut {F : Hp} {p : Addr} {us : List V} (hp : F p = some (.lst us)) : ∀ {vs : List V} {ds : List D}, RepL K F vs ds → noLsts ds = true → RepL K (cutH F p) vs ds
  | _, _, .nil, _ => .nil
  | _, _, .cons h r, e => by
    unfold noLsts at e
    obtain ⟨e1, e2⟩ := Bool.and_eq_true_iff.mp e
    exact .cons (rep_cut hp h e1) (repL_cut hp r e2)
end
/-- slot j's list at p lent -/
def lent (x : Cf) (j : Nat) (p : Addr) (us : List V) (ds : List D) : Cf := ⟨upd x.F p (.lst us), x.H, x.s, x.r.set j (.val (.lst ds))⟩
theorem set_get {α : Type} {l : List α} {i j : Nat} {a b : α} (h : (l.set i a)[j]? = some b) : (i = j ∧ a = b) ∨ (i ≠ j ∧ l[j]? = some b) := by
  by_cases e : i = j
  · subst e
    by_cases hl : i < l.length
    · rw [List.getElem?_set_self hl] at h
      exact .inl ⟨rfl, Option.some.inj h⟩
    · rw [List.getElem?_eq_none (by simpa using hl)] at h; cases h
  · rw [List.getElem?_set_ne e] at h
    exact .inr ⟨e, h⟩
theorem lent_cel {x : Cf} {j : Nat} {p : Addr} {us : List V} {ds : List D} {i : Nat} {k : CK} {q : Addr} (h : CelAt (lent x j p us ds) i k q) : i ≠ j ∧ CelAt x i k q := by
  obtain ⟨⟨es, h1⟩, h2⟩ := h
  rcases set_get (show (x.r.set j (.val (.lst ds)))[i]? = some (.cel k es) from h1) with ⟨_, e⟩ | ⟨e, g⟩
  · cases e
  · exact ⟨Ne.symm e, ⟨es, g⟩, h2⟩
theorem lent_ok {x : Cf} {j : Nat} {p : Addr} {us : List V} {ds : List D} {k : CK} (s : RSt K x) (h : x.r[j]? = some (.cel k ds)) (hs : x.s[j]? = some (some (.ref p))) (r : RepL K x.F us ds) (hp : x.H p = some (.lst us)) (fp : x.F p = none) : RSt K (lent x j p us ds) where
  sub := fun a o e => by
    by_cases ha : a = p
    · subst ha
      have e' : upd x.F a (HO.lst us) a = some o := e
      rw [upd_same] at e'; cases e'
      exact hp
    · exact s.sub a o (by rw [← e]; exact (upd_ne ha).symm)
  len := by show x.s.length = (x.r.set j _).length; rw [List.length_set]; exact s.len
  val := fun i d e => by
    rcases set_get (show (x.r.set j (.val (.lst ds)))[i]? = some (.val d) from e) with ⟨e1, e2⟩ | ⟨e1, e2⟩
    · subst e1
      cases e2
      exact ⟨.ref p, hs, .lst upd_same (r.mono (same_upd fp))⟩
    · obtain ⟨v, h1, h2⟩ := s.val i d e2
      exact ⟨v, h1, h2.mono (same_upd fp)⟩
  cel := fun i k' es e => by
    rcases set_get (show (x.r.set j (.val (.lst ds)))[i]? = some (.cel k' es) from e) with ⟨e1, e2⟩ | ⟨e1, e2⟩
    · cases e2
    · obtain ⟨q, h1, ws, h2, h3, h4⟩ := s.cel i k' es e2
      refine ⟨q, h1, ws, h2.mono (same_upd fp), h3, ?_⟩
      have ne : q ≠ p := fun z => e1 (s.dis j i k k' p ⟨⟨ds, h⟩, hs⟩ ⟨⟨es, e2⟩, by rw [← z]; exact h1⟩)
      show upd x.F p _ q = none
      rw [upd_ne ne]; exact h4
  dis := fun i j' k' l q h1 h2 => s.dis i j' k' l q (lent_cel h1).2 (lent_cel h2).2
/-- what the touched slots may hold when the list comes back -/
def okT (T : List Nat) (r : List Ent) : Bool := T.all fun i => match r[i]? with
  | some (.val d) => noLst d
  | some (.cel _ ds) => noLsts ds
  | _ => true
/-- .. and taken back -/
def back (y : Cf) (j : Nat) (p : Addr) (k : CK) (ds : List D) : Cf := ⟨cutH y.F p, y.H, y.s, y.r.set j (.cel k ds)⟩
theorem back_ok {T : List Nat} {x y : Cf} {j : Nat} {p : Addr} {us : List V} {ds : List D} {k : CK} (s : RSt K x) (h : x.r[j]? = some (.cel k ds)) (hs : x.s[j]? = some (some (.ref p))) (r : RepL K x.F us ds) (hp : x.H p = some (.lst us)) (fp : x.F p = none)
    (f : Fr T (lent x j p us ds) y) (sy : RSt K y) (hj : j ∉ T) (ht : okT T y.r = true) : Fr T x (back y j p k ds) ∧ RSt K (back y j p k ds) := by
  have yp : y.F p = some (.lst us) := f.ff p _ upd_same
  have lj : j < x.r.length := (List.getElem?_eq_some_iff.mp h).1
  have lenr : y.r.length = x.r.length := f.ln.trans (by show (x.r.set j _).length = _; rw [List.length_set])
  have lty : j < y.r.length := by rw [lenr]; exact lj
  have ysj : y.s[j]? = some (some (.ref p)) := (f.un j hj).2.trans hs
  have yH : y.H p = some (.lst us) := sy.sub p _ yp
  have celb : ∀ i l q, CelAt (back y j p k ds) i l q → (i = j ∧ l = k ∧ q = p) ∨ (i ≠ j ∧ CelAt y i l q) := fun i l q ⟨⟨es, h1⟩, h2⟩ => by
    rcases set_get (show (y.r.set j (.cel k ds))[i]? = some (.cel l es) from h1) with ⟨e1, e2⟩ | ⟨e1, e2⟩
    · subst e1
      cases e2
      have h2' : y.s[j]? = some (some (.ref q)) := h2
      rw [ysj] at h2'
      cases h2'
      exact .inl ⟨rfl, rfl, rfl⟩
    · exact .inr ⟨Ne.symm e1, ⟨es, e2⟩, h2⟩
  have celx : CelAt x j k p := ⟨⟨ds, h⟩, hs⟩
  have yne : ∀ i l q, CelAt y i l q → q ≠ p := fun i l q c z => by
    obtain ⟨_, _, _, _, _, g⟩ := sy.at c
    rw [z, yp] at g; cases g
  constructor
  · refine ⟨by show (y.r.set j _).length = _; rw [List.length_set]; exact lenr, fun a o e => ?_, f.dm, fun a o e => ?_, fun a o e n => ?_, fun i l q c => ?_, fun i hi => ?_⟩
    · have ne : a ≠ p := by rintro rfl; rw [fp] at e; cases e
      show cutH y.F p a = some o
      rw [cutH_ne ne]
      exact f.ff a o (by show upd x.F p _ a = some o; rw [upd_ne ne]; exact e)
    · have e' : cutH y.F p a = some o := e
      have ne : a ≠ p := by rintro rfl; rw [cutH_same] at e'; cases e'
      rw [cutH_ne ne] at e'
      rcases f.nw a o e' with ⟨u, g⟩ | g | ⟨i, g⟩
      · exact .inl ⟨u, by rw [← g]; exact (upd_ne ne).symm⟩
      · exact .inr (.inl g)
      · exact .inr (.inr ⟨i, (lent_cel g).2⟩)
    · exact f.hp a o e fun i hi l c => n i hi l (lent_cel c).2
    · rcases celb i l q c with ⟨rfl, rfl, rfl⟩ | ⟨ne, c'⟩
      · exact .inr celx
      · rcases f.cc i l q c' with g | g
        · exact .inl g
        · exact .inr (lent_cel g).2
    · show (y.r.set j _)[i]? = _ ∧ _
      by_cases e : i = j
      · subst e
        rw [List.getElem?_set_self lty]
        exact ⟨h.symm, (f.un i hi).2⟩
      · rw [List.getElem?_set_ne (Ne.symm e)]
        refine ⟨(f.un i hi).1.trans ?_, (f.un i hi).2⟩
        show (x.r.set j _)[i]? = _
        rw [List.getElem?_set_ne (Ne.symm e)]
  · refine ⟨fun a o e => ?_, by show y.s.length = (y.r.set j _).length; rw [List.length_set]; exact sy.len, fun i d e => ?_, fun i l es e => ?_, fun i m l l' q c c' => ?_⟩
    · have e' : cutH y.F p a = some o := e
      have ne : a ≠ p := by rintro rfl; rw [cutH_same] at e'; cases e'
      rw [cutH_ne ne] at e'
      exact sy.sub a o e'
    · rcases set_get (show (y.r.set j (.cel k ds))[i]? = some (.val d) from e) with ⟨_, e2⟩ | ⟨e1, e2⟩
      · cases e2
      · by_cases hi : i ∈ T
        · obtain ⟨v, h1, h2⟩ := sy.val i d e2
          have := List.all_eq_true.mp ht i hi
          rw [e2] at this
          exact ⟨v, h1, rep_cut yp h2 this⟩
        · obtain ⟨g1, g2⟩ := f.un i hi
          rw [e2] at g1
          have g3 : x.r[i]? = some (.val d) := by
            rw [g1]
            show x.r[i]? = (x.r.set j _)[i]?
            rw [List.getElem?_set_ne e1]
          obtain ⟨v, h1, h2⟩ := s.val i d g3
          refine ⟨v, g2.trans h1, h2.mono fun a o ea => ?_⟩
          have ne : a ≠ p := by rintro rfl; rw [fp] at ea; cases ea
          show cutH y.F p a = some o
          rw [cutH_ne ne]
          exact f.ff a o (by show upd x.F p _ a = some o; rw [upd_ne ne]; exact ea)
    · rcases set_get (show (y.r.set j (.cel k ds))[i]? = some (.cel l es) from e) with ⟨e1, e2⟩ | ⟨e1, e2⟩
      · subst e1
        cases e2
        exact ⟨p, ysj, us, r.mono fun a o ea => by
          have ne : a ≠ p := by rintro rfl; rw [fp] at ea; cases ea
          show cutH y.F p a = some o
          rw [cutH_ne ne]
          exact f.ff a o (by show upd x.F p _ a = some o; rw [upd_ne ne]; exact ea), yH, cutH_same⟩
      · obtain ⟨q, h1, ws, h2, h3, h4⟩ := sy.cel i l es e2
        have qp : q ≠ p := yne i l q ⟨⟨es, e2⟩, h1⟩
        refine ⟨q, h1, ws, ?_, h3, by show cutH y.F p q = none; rw [cutH_ne qp]; exact h4⟩
        by_cases hi : i ∈ T
        · have := List.all_eq_true.mp ht i hi
          rw [e2] at this
          exact repL_cut yp h2 this
        · obtain ⟨g1, g2⟩ := f.un i hi
          rw [e2] at g1
          have g3 : x.r[i]? = some (.cel l es) := by
            rw [g1]
            show x.r[i]? = (x.r.set j _)[i]?
            rw [List.getElem?_set_ne e1]
          obtain ⟨q', k1, ws', k2, k3, k4⟩ := s.cel i l es g3
          rw [g2, show (lent x j p us ds).s[i]? = x.s[i]? from rfl, k1] at h1
          cases h1
          -- the same list stands there
          have hk : y.H q = some (.lst ws') := by
            refine f.hp q _ k3 fun i' hi' l' c => ?_
            have := s.dis i' i l' l q (lent_cel c).2 ⟨⟨es, g3⟩, k1⟩
            exact hi (this ▸ hi')
          rw [h3] at hk
          cases hk
          exact k2.mono fun a o ea => by
            have ne : a ≠ p := by rintro rfl; rw [fp] at ea; cases ea
            show cutH y.F p a = some o
            rw [cutH_ne ne]
            exact f.ff a o (by show upd x.F p _ a = some o; rw [upd_ne ne]; exact ea)
    · rcases celb i l q c with ⟨a1, a2, a3⟩ | ⟨ne, c1⟩
      · rcases celb m l' q c' with ⟨b1, b2, b3⟩ | ⟨ne', c2⟩
        · rw [a1, b1]
        · exact absurd a3 (yne m l' q c2)
      · rcases celb m l' q c' with ⟨b1, b2, b3⟩ | ⟨ne', c2⟩
        · exact absurd b3 (yne i l q c1)
        · exact sy.dis i m l l' q c1 c2
/-- m runs while slot j's list is lent -/
def lend {α : Type} (T : List Nat) (j : Nat) (okA : α → Bool) (m : M α) : M α := fun r => match r[j]? with
  | some (.cel k ds) => match m (r.set j (.val (.lst ds))) with
    | .ok a r' => if okA a && okT T r' then .ok a (r'.set j (.cel k ds)) else .bad
    | _ => .bad
  | _ => .bad
theorem lend_run {S : List Nat} (hS : ∀ i ∈ S, i ∈ T) {j : Nat} (hj : j ∉ S) {α : Type} {okA : α → Bool} {m : M α} {x : Cf} {Q : α → Cf → Prop} (s : RSt X.K x) (p : Post X.K X.mg T W x (lend S j okA m x.r) Q) :
    ∃ k ds pa us, x.r[j]? = some (.cel k ds) ∧ x.s[j]? = some (some (.ref pa)) ∧ RSt X.K (lent x j pa us ds) ∧ Post X.K X.mg S W (lent x j pa us ds) (m (lent x j pa us ds).r) fun a y => okA a = true ∧ y.F pa = some (.lst us) ∧ Q a (back y j pa k ds) := by
  unfold lend at p
  split at p
  · rename_i k ds e
    obtain ⟨pa, h1, us, h2, h3, h4⟩ := s.cel j k ds e
    refine ⟨k, ds, pa, us, e, h1, lent_ok s e h1 h2 h3 h4, ?_⟩
    show Post X.K X.mg S W (lent x j pa us ds) (m (x.r.set j (.val (.lst ds)))) _
    cases q : m (x.r.set j (.val (.lst ds))) with
    | ok a r' =>
      rw [q] at p
      simp only at p
      split at p
      · rename_i c
        obtain ⟨c1, c2⟩ := Bool.and_eq_true_iff.mp c
        intro y hy fy sy
        rw [← hy] at c2 p
        obtain ⟨b1, b2⟩ := back_ok s e h1 h2 h3 h4 fy sy hj c2
        exact ⟨c1, fy.ff pa _ upd_same, p (back y j pa k ds) rfl (b1.mono hS) b2⟩
      · exact p.elim
    | exc c pl r' => rw [q] at p; exact p.elim
    | bad => rw [q] at p; exact p.elim
  · exact p.elim
theorem se_lend {S : List Nat} (j : Nat) {e : Expr} {m : M D} (h : SE X W S e m) (hS : ∀ i ∈ S, i ∈ T := by decide) (hj : j ∉ S := by decide) : SE X W T e (lend S j noLst m) := by
  obtain ⟨te, pe, ev⟩ := h.ex
  refine ⟨te, pe, fun x Q s p => ?_⟩
  obtain ⟨k, ds, pa, us, h1, h2, s1, p1⟩ := lend_run hS hj s p
  have := ev (lent x j pa us ds) Q s1 (p1.mono fun a y fy sy ⟨c1, c2, q⟩ hs v hv => q hs v (rep_cut c2 hv c1))
  exact this
theorem st_lend {S : List Nat} (j : Nat) {e : Expr} {m : M Bool} (h : ST X W S e m) (hS : ∀ i ∈ S, i ∈ T := by decide) (hj : j ∉ S := by decide) : ST X W T e (lend S j (fun _ => true) m) := by
  obtain ⟨te, pe, ev⟩ := h.ex
  refine ⟨te, pe, fun x Q s p => ?_⟩
  obtain ⟨k, ds, pa, us, h1, h2, s1, p1⟩ := lend_run hS hj s p
  have := ev (lent x j pa us ds) Q s1 (p1.mono fun a y fy sy ⟨c1, c2, q⟩ hs => q hs)
  exact this
/-! ### a list of one's own, frozen from here on -/
def frz {α : Type} (j : Nat) (m : M α) : M α := fun r => match r[j]? with
  | some (.cel .own ds) => m (r.set j (.val (.lst ds)))
  | _ => .bad
theorem frz_run {j : Nat} (hj : j ∈ T) {α : Type} {m : M α} {x : Cf} {Q : α → Cf → Prop} (s : RSt X.K x) (p : Post X.K X.mg T W x (frz j m x.r) Q) :
    ∃ y, y.s = x.s ∧ y.H = x.H ∧ Fr T x y ∧ RSt X.K y ∧ Post X.K X.mg T W y (m y.r) Q := by
  unfold frz at p
  split at p
  · rename_i ds e
    obtain ⟨pa, h1, us, h2, h3, h4⟩ := s.cel j _ ds e
    have f : Fr T x (lent x j pa us ds) := by
      refine ⟨by show (x.r.set j _).length = _; rw [List.length_set], same_upd h4, fun _ h => h, fun a o ea => ?_, fun a o ea _ => ea, fun i l q c => .inr (lent_cel c).2, fun i hi => ?_⟩
      · by_cases ha : a = pa
        · subst ha
          exact .inr (.inr ⟨j, ⟨ds, e⟩, h1⟩)
        · exact .inl ⟨o, by rw [← ea]; exact (upd_ne ha).symm⟩
      · refine ⟨?_, rfl⟩
        show (x.r.set j _)[i]? = _
        rw [List.getElem?_set_ne (by rintro rfl; exact hi hj)]
    exact ⟨lent x j pa us ds, rfl, rfl, f, lent_ok s e h1 h2 h3 h4, p.shift f⟩
  · exact p.elim
theorem se_frz (j : Nat) {e : Expr} {m : M D} (h : SE X W T e m) (hj : j ∈ T := by decide) : SE X W T e (frz j m) := by
  obtain ⟨te, pe, ev⟩ := h.ex
  refine ⟨te, pe, fun x Q s p => ?_⟩
  obtain ⟨y, e1, e2, f, sy, p1⟩ := frz_run hj s p
  rw [← e1, ← e2]
  exact ev y Q sy (p1.mono fun a z _ _ q hs => q (hs.trans e1))
end
end FL
namespace FL
open PySem PySem.Spec L2
/-! ### what a def promises -/
def outR (io : Option Nat) (r outs : List Ent) : List Ent := match io, outs with
  | some i, [e] => r.set i e
  | _, _ => r
def NewL (K : PySem.W.Frag) (x y : Cf) (p : Addr) (ds : List D) : Prop := ∃ us, FreshAt K y p us ds ∧ x.H p = none ∧ ∀ i k, ¬ CelAt y i k p
def RetR (K : PySem.W.Frag) (fr : Bool) (x y : Cf) (v : V) (d : D) : Prop := if fr then ∃ p ds, v = .ref p ∧ d = .lst ds ∧ ∃ us, FreshAt K y p us ds ∧ x.H p = none else Rep K y.F v d
def PostF (K : PySem.W.Frag) (mg : Str → Option Value) (io : Option Nat) (fr : Bool) (x : Cf) (r : R D) (Q : VK) (E : XK) : Prop := match r with
  | .ok d outs => ∀ y : Cf, y.s = x.s → y.r = outR io x.r outs → Fr io.toList x y → RSt K y → ∀ v, RetR K fr x y v d → Q v y.H
  | .exc c pl outs => ∀ (y : Cf) (cls : Value) (dx : Option Addr), y.s = x.s → y.r = outR io x.r outs → Fr io.toList x y → RSt K y → ExcRep K mg y c pl cls dx → E cls dx y.H
  | .bad => False
def SpF (K : PySem.W.Frag) (mg : Str → Option Value) (io : Option Nat) (fr : Bool) (np : Nat) (f : List Ent → R D) : Sp := fun vs H Q E =>
  vs.length = np ∧ ∃ x : Cf, x.H = H ∧ x.s = vs.map some ∧ RSt K x ∧ (∀ i k p, CelAt x i k p → io = some i ∧ k = .io) ∧ PostF K mg io fr x (f x.r) Q E
structure DefOk (P : Program) (w : World) (K : PySem.W.Frag) (mg : Str → Option Value) (base : Heap) (x : Str) (st : Stmt) (ps : List Str) (k : Nat) (io : Option Nat) (fr : Bool) (F : List Ent → R D) : Prop where
  ex : ∃ f fd, mg x = some (.ref f) ∧ PySem.W.keepIn K (.ref f) = true ∧ Fun K x x st f fd ∧ FnOk P w K mg base (L2.CX P w) k f fd ps (SpF K mg io fr ps.length F) ∧ Binds K fd ps []
section
variable {X : Cx} {W : WX} {T : List Nat} {K : PySem.W.Frag}
/-! ### calls -/
theorem WE_eq (W : WX) (σ : L2.St) : WE W σ = fun cls d H => W cls d σ H := rfl
/-- the callee's state: all values -/
def valsOf (ds : List D) : List Ent := ds.map .val
theorem valsOf_get {ds : List D} {i : Nat} {e : Ent} (h : (valsOf ds)[i]? = some e) : ∃ d, ds[i]? = some d ∧ e = .val d := by
  unfold valsOf at h
  rw [List.getElem?_map] at h
  cases q : ds[i]? with
  | none => rw [q] at h; cases h
  | some d => rw [q] at h; exact ⟨d, rfl, (Option.some.inj h).symm⟩
theorem enter_ok {y : Cf} {vs : List V} {ds : List D} (s : RSt K y) (r : RepL K y.F vs ds) : RSt K ⟨y.F, y.H, vs.map some, valsOf ds⟩ ∧ ∀ i k p, ¬ CelAt ⟨y.F, y.H, vs.map some, valsOf ds⟩ i k p := by
  have nc : ∀ i k p, ¬ CelAt ⟨y.F, y.H, vs.map some, valsOf ds⟩ i k p := fun i k p ⟨⟨es, h⟩, _⟩ => by
    obtain ⟨d, _, e⟩ := valsOf_get h
    cases e
  refine ⟨⟨s.sub, by show (vs.map some).length = (valsOf ds).length; unfold valsOf; rw [List.length_map, List.length_map]; exact r.length, fun i d h => ?_, fun i k es h => ?_, fun i j k l p h _ => (nc i k p h).elim⟩, nc⟩
  · obtain ⟨d', h1, h2⟩ := valsOf_get h
    cases h2
    obtain ⟨v, h3, h4⟩ := r.get h1
    exact ⟨v, by show (vs.map some)[i]? = _; rw [List.getElem?_map, h3]; rfl, h4⟩
  · obtain ⟨d, _, e⟩ := valsOf_get h
    cases e
/-- behind a call that changes nothing of the caller's -/
theorem leave_ext {x y z : Cf} (s : RSt K x) (e1 : y.F = x.F) (e2 : y.H = x.H) (nc : ∀ i k p, ¬ CelAt y i k p) (f : Fr [] y z) (sz : RSt K z) : Ext x ⟨z.F, z.H, x.s, x.r⟩ :=
  ⟨rfl, rfl, by rw [← e1]; exact f.ff, fun a o h => f.hp a o (by rw [e2]; exact h) (fun i hi => nomatch hi), sz.sub, fun a o h => by
    rcases f.nw a o h with g | g | ⟨i, g⟩
    · rw [e1] at g; exact .inl g
    · rw [e2] at g; exact .inr g
    · exact (nc i _ a g).elim⟩
def callD (np : Nat) (F : List Ent → R D) (m : M (List D)) : M D := mB m fun ds r => if ds.length = np then (match F (valsOf ds) with
  | .ok d _ => .ok d r
  | .exc c pl _ => .exc c pl r
  | .bad => .bad) else .bad
def callL (np : Nat) (F : List Ent → R D) (m : M (List D)) : M (List D) := mB m fun ds r => if ds.length = np then (match F (valsOf ds) with
  | .ok (.lst es) _ => .ok es r
  | .ok _ _ => .bad
  | .exc c pl _ => .exc c pl r
  | .bad => .bad) else .bad
theorem call_run {mg : Str → Option Value} {np : Nat} {F : List Ent → R D} {y : Cf} {vs : List V} {ds : List D} {Q : VK} {W : WX} {σ : L2.St} (s : RSt K y) (r : RepL K y.F vs ds) (hn : ds.length = np)
    (hok : ∀ d o, F (valsOf ds) = .ok d o → ∀ z, Ext y z → ∀ v, Rep K z.F v d → Q v z.H)
    (hx : ∀ c pl o, F (valsOf ds) = .exc c pl o → ∀ z cls dx, Ext y z → ExcRep K mg z c pl cls dx → W cls dx σ z.H)
    (hb : F (valsOf ds) ≠ .bad) : SpF K mg none false np F vs y.H Q (WE W σ) := by
  obtain ⟨s0, nc⟩ := enter_ok s r
  refine ⟨by rw [r.length]; exact hn, ⟨y.F, y.H, vs.map some, valsOf ds⟩, rfl, rfl, s0, fun i k p h => (nc i k p h).elim, ?_⟩
  show PostF K mg none false _ (F (valsOf ds)) Q (WE W σ)
  cases q : F (valsOf ds) with
  | ok d o => exact fun z _ _ f sz v hv => hok d o q _ (leave_ext (y := ⟨y.F, y.H, vs.map some, valsOf ds⟩) s rfl rfl nc f sz) v hv
  | exc c pl o => exact fun z cls dx _ _ f sz w => hx c pl o q ⟨z.F, z.H, y.s, y.r⟩ cls dx (leave_ext (y := ⟨y.F, y.H, vs.map some, valsOf ds⟩) s rfl rfl nc f sz) w
  | bad => exact hb q
theorem call_runL {mg : Str → Option Value} {np : Nat} {F : List Ent → R D} {y : Cf} {vs : List V} {ds : List D} {Q : VK} {W : WX} {σ : L2.St} (s : RSt K y) (r : RepL K y.F vs ds) (hn : ds.length = np)
    (hok : ∀ d o, F (valsOf ds) = .ok d o → ∀ z, Ext y z → ∀ p es, d = .lst es → NewL K y z p es → Q (.ref p) z.H)
    (hx : ∀ c pl o, F (valsOf ds) = .exc c pl o → ∀ z cls dx, Ext y z → ExcRep K mg z c pl cls dx → W cls dx σ z.H)
    (hb : F (valsOf ds) ≠ .bad) : SpF K mg none true np F vs y.H Q (WE W σ) := by
  obtain ⟨s0, nc⟩ := enter_ok s r
  refine ⟨by rw [r.length]; exact hn, ⟨y.F, y.H, vs.map some, valsOf ds⟩, rfl, rfl, s0, fun i k p h => (nc i k p h).elim, ?_⟩
  show PostF K mg none true _ (F (valsOf ds)) Q (WE W σ)
  cases q : F (valsOf ds) with
  | ok d o =>
    intro z _ _ f sz v hv
    obtain ⟨p, es, rfl, rfl, us, h1, h2⟩ := hv
    refine hok _ o q _ (leave_ext (y := ⟨y.F, y.H, vs.map some, valsOf ds⟩) s rfl rfl nc f sz) p es rfl ⟨us, h1, h2, fun i k c => ?_⟩
    exact not_cel s h2 i k c
  | exc c pl o => exact fun z cls dx _ _ f sz w => hx c pl o q ⟨z.F, z.H, y.s, y.r⟩ cls dx (leave_ext (y := ⟨y.F, y.H, vs.map some, valsOf ds⟩) s rfl rfl nc f sz) w
  | bad => exact hb q
theorem ev_call {np : Nat} {F : List Ent → R D} {ta : TA} {fa : M (List D)} (ea : EvD X W T ta fa) : EvE X W T (tCallSD (SpF X.K X.mg none false np F) [] (WE W) ta) (callD np F fa) := by
  intro x Q s p
  refine ea.bind s p fun ds y f1 s1 e1 vs hv p1 => ?_
  rw [List.append_nil]
  by_cases c : ds.length = np
  · rw [if_pos c] at p1
    refine call_run s1 hv c (fun d o q z ex v hv' => ?_) (fun c pl o q z cls dx ex w => ?_) (fun q => ?_)
    · rw [q] at p1; exact Post.here p1 ex s1 (ex.s.trans e1) v hv'
    · rw [q] at p1
      have := p1 z cls dx ex.r (ex.fr T) (ex.rst s1) w
      rw [ex.s, e1] at this
      exact this
    · rw [q] at p1; exact p1
  · rw [if_neg c] at p1
    exact p1.elim
theorem ev_callL {np : Nat} {F : List Ent → R D} {ta : TA} {fa : M (List D)} (ea : EvD X W T ta fa) : EvL X W T (tCallSD (SpF X.K X.mg none true np F) [] (WE W) ta) (callL np F fa) := by
  intro x Q s p
  refine ea.bind s p fun ds y f1 s1 e1 vs hv p1 => ?_
  rw [List.append_nil]
  by_cases c : ds.length = np
  · rw [if_pos c] at p1
    refine call_runL s1 hv c (fun d o q z ex p es hd hv' => ?_) (fun c pl o q z cls dx ex w => ?_) (fun q => ?_)
    · subst hd
      rw [q] at p1
      obtain ⟨us, h1, h2, h3⟩ := hv'
      exact Post.here p1 ex s1 (ex.s.trans e1) p us h1 (f1.dm p h2) h3
    · rw [q] at p1
      have := p1 z cls dx ex.r (ex.fr T) (ex.rst s1) w
      rw [ex.s, e1] at this
      exact this
    · rw [q] at p1; exact p1
  · rw [if_neg c] at p1
    exact p1.elim
variable {x : Str} {st : Stmt} {ps : List Str} {k : Nat} {F : List Ent → R D} {e : Expr} {es : List Expr} {p pos : Pos}
theorem se_call {np : Nat} (G : DefOk X.prog X.w X.K X.mg X.base x st ps k none false F) (hr : Room k X.A) (tk : Takes X W) {fa : M (List D)} (ha : SD X W T (e :: es) fa) (hg : Gl X x := by rfl) (hdb : (x == ("__debug__" : Str)) = false := by decide)
    (he : starEach (e :: es) X.env = (false, eval e X.env) :: starEach es X.env := by rfl) (hpl : (backTo pos (starEach es X.env)).any (·.1) = false := by rfl) (hn : ps.length = np := by rfl) : SE X W T (.Call (.Name x p) (e :: es) [] pos) (callD np F fa) := by
  subst hn
  obtain ⟨f, fd, hm, hk, _, FO, hb⟩ := G.ex
  obtain ⟨ta, pa, ea⟩ := ha.ex
  exact ⟨_, pe_callSD FO hr hg hm hk hb .nil (fun σ => passAt tk σ) pa hdb he hpl, ev_call ea⟩
theorem el_call {np : Nat} (G : DefOk X.prog X.w X.K X.mg X.base x st ps k none true F) (hr : Room k X.A) (tk : Takes X W) {fa : M (List D)} (ha : SD X W T (e :: es) fa) (hg : Gl X x := by rfl) (hdb : (x == ("__debug__" : Str)) = false := by decide)
    (he : starEach (e :: es) X.env = (false, eval e X.env) :: starEach es X.env := by rfl) (hpl : (backTo pos (starEach es X.env)).any (·.1) = false := by rfl) (hn : ps.length = np := by rfl) : SL X W T (.Call (.Name x p) (e :: es) [] pos) (callL np F fa) := by
  subst hn
  obtain ⟨f, fd, hm, hk, _, FO, hb⟩ := G.ex
  obtain ⟨ta, pa, ea⟩ := ha.ex
  exact ⟨_, pe_callSD FO hr hg hm hk hb .nil (fun σ => passAt tk σ) pa hdb he hpl, ev_callL ea⟩
/-! ### built-ins -/
/-- what a built-in's rule gives on data -/
def CallOk (K : PySem.W.Frag) (r : List V → Hp → VK → Prop) (o : List D → Option D) : Prop :=
  ∀ (x : Cf) (vs : List V) (ds : List D) (z : D) (Q : VK), RSt K x → RepL K x.F vs ds → o ds = some z → (∀ y w, Ext x y → Rep K y.F w z → Q w y.H) → r vs x.H Q
theorem CallOk.or {r r' : List V → Hp → VK → Prop} {o o' : List D → Option D} (h : CallOk K r o) (h' : CallOk K r' o') : CallOk K (fun x H Q => r x H Q ∨ r' x H Q) (fun ds => match o ds with | some z => some z | none => o' ds) := by
  intro x vs ds z Q s hv q k
  cases w : o ds with
  | some z' =>
    simp only [w] at q
    cases q
    exact .inl (h x vs ds _ Q s hv w k)
  | none =>
    simp only [w] at q
    exact .inr (h' x vs ds z Q s hv q k)
theorem CallOk.le {r : List V → Hp → VK → Prop} {o o' : List D → Option D} (h : CallOk K r o) (e : ∀ ds z, o' ds = some z → o ds = some z) : CallOk K r o' := fun x vs ds z Q s hv q k => h x vs ds z Q s hv (e _ _ q) k
def xB (o : List D → Option D) (m : M (List D)) : M D := mB m fun ds => mO (o ds)
theorem ev_b {r : List V → Hp → VK → Prop} {o : List D → Option D} {ta : TA} {fa : M (List D)} (h : CallOk X.K r o) (ea : EvD X W T ta fa) : EvE X W T (tCB r ta) (xB o fa) := by
  intro x Q s p
  refine ea.bind s p fun ds y f1 s1 e1 vs hv p1 => ?_
  cases q : o ds with
  | none => rw [q] at p1; exact p1.elim
  | some z =>
    rw [q] at p1
    exact h y vs ds z Q s1 hv q fun y2 w ex hw => Post.here p1 ex s1 (ex.s.trans e1) w hw
theorem se_b {id : String} {r : List V → Hp → VK → Prop} {o : List D → Option D} {fa : M (List D)} (hc : CallR X (.builtin id) r) (h : CallOk X.K r o) (hm : X.mg x = none) (ha : SD X W T (e :: es) fa) (hv : bootBuiltins x = some (.builtin id)) (hg : Gl X x := by rfl) (hn : x ≠ "__name__" := by decide)
    (hdb : (x == ("__debug__" : Str)) = false := by decide) (he : starEach (e :: es) X.env = (false, eval e X.env) :: starEach es X.env := by rfl) (hpl : (backTo pos (starEach es X.env)).any (·.1) = false := by rfl) : SE X W T (.Call (.Name x p) (e :: es) [] pos) (xB o fa) := by
  obtain ⟨ta, pa, ea⟩ := ha.ex
  exact ⟨_, pe_callB hc hg hm hv pa hn hdb he hpl, ev_b h ea⟩
theorem se_bt {id : String} {r : List V → Hp → VK → Prop} {o : List D → Option D} {fa : M (List D)} (hc : CallR X (.type id) r) (h : CallOk X.K r o) (hm : X.mg x = none) (ha : SD X W T (e :: es) fa) (hv : bootBuiltins x = some (.type id)) (hg : Gl X x := by rfl) (hn : x ≠ "__name__" := by decide)
    (hdb : (x == ("__debug__" : Str)) = false := by decide) (he : starEach (e :: es) X.env = (false, eval e X.env) :: starEach es X.env := by rfl) (hpl : (backTo pos (starEach es X.env)).any (·.1) = false := by rfl) : SE X W T (.Call (.Name x p) (e :: es) [] pos) (xB o fa) := by
  obtain ⟨ta, pa, ea⟩ := ha.ex
  exact ⟨_, pe_callTy hc hg hm hv pa hn hdb he hpl, ev_b h ea⟩
end
end FL
namespace FL
open PySem PySem.Spec L2 Builtin
/-! ### a row walked: a list or a tuple -/
def iSeq (K : PySem.W.Frag) (tl : TE) : TI := fun σ H R => tl σ H fun x H1 => ∃ a, x = .ref a ∧ (((∃ xs, SqL K H1 a xs) ∧ R (Itl K a) H1) ∨ ((∃ xs, SqT K H1 a xs) ∧ R (Itt K a) H1))
theorem pi_seq {X : Cx} {tg l : Expr} {tl : TE} (hl : PE X l tl) : PI X tg l (iSeq X.K tl) := by
  constructor
  intro pins s σ H R I h
  refine thn (hl.run pins s σ H _ I h) fun v s1 w => ?_
  obtain ⟨x, H1, I1, r1, a, e, q⟩ := w
  subst e
  have hv : v = Value.ref a := r1
  subst hv
  have fresh : ∀ b ∈ [s1.heap.objs.size], FpOk X pins H1 b := fun b hb => by
    rw [List.mem_singleton] at hb
    rw [hb]
    exact I1.fpOk (Nat.le_refl _) (I1.hok.fresh (Nat.le_refl _))
  rcases q with ⟨⟨xs, hq⟩, q⟩ | ⟨⟨xs, hq⟩, q⟩
  · obtain ⟨its, rv, pl, hz⟩ := I1.list hq
    refine wpAny_pyIter_list pl.isList ⟨_, [s1.heap.objs.size], _, _, H1, rfl, ?_, turn_list a _, ⟨_, Heap.get?_push_size _ rfl, rfl, rfl⟩, fresh, q⟩
    exact I1.kept (t' := s1.toks) fun b o e => Heap.get?_push_of_some _ e
  · obtain ⟨its, rv, pl, hz⟩ := I1.tuple hq
    have pt : s1.heap.IsTuple a its.toArray := pl
    refine wpAny_pyIter_tuple pt ⟨_, [s1.heap.objs.size], _, _, H1, rfl, ?_, turn_tuple a _, ⟨_, Heap.get?_push_size _ rfl, rfl, rfl⟩, fresh, q⟩
    exact I1.kept (t' := s1.toks) fun b o e => Heap.get?_push_of_some _ e
/-! ### enumerate of a tuple -/
abbrev tupIt (l : Addr) : Obj := { cls := .type "tuple_iterator", data := .fields #[.ref l, .int 0 0] }
abbrev enIt (n : Addr) : Obj := { cls := .type "enumerate", data := .fields #[.none, .bool false, .ref n, rawInt 0, .none, .none] }
theorem en_new (l : Addr) (items : Array Value) (o : Obj) : Meets (Builtin.«enumerate.__new__» ⟨[.type "enumerate", .ref l], []⟩)
    (fun _ R s => s.heap.get? l = some o ∧ o.cls = .type "tuple" ∧ s.heap.IsTuple l items ∧ R (.ok (.ret (.ref (s.heap.push (tupIt l)).objs.size))) { s with heap := (s.heap.push (tupIt l)).push (enIt s.heap.objs.size) }) := by
  refine .of_wp fun prog w A R s h => ?_
  obtain ⟨hp, g, d, tk, os⟩ := s
  obtain ⟨hl, hc, hL, h⟩ := h
  obtain ⟨oc, od, odt, osl⟩ := o
  have hc' : oc = .type "tuple" := hc
  subst hc'
  have hL' : Heap.IsTuple (Shared.heap ⟨hp, g, d, tk, os⟩) l items := hL
  have hs := sub_enumerate
  wp_walk using AutoSeq1.wpAny_loadPart' hl
  refine wpAny_stack_any fun st => wpAny_pure ?_
  split
  · rename_i c _ _ _ _ _
    cases (c == Value.type "enumerate") <;>
    · wp_walk using AutoSeq1.wpAny_loadPart' hl, wpAny_pyIter_tuple hL'
      exact ⟨_, rfl, h⟩
  · wp_walk using AutoSeq1.wpAny_loadPart' hl, wpAny_pyIter_tuple hL'
    exact ⟨_, rfl, h⟩
theorem en_call {prog : Program} {w : World} {A : Around} {E : Value → Shared → Prop} {s : Shared} {l : Addr} {items : Array Value} {Q : Value → Shared → Prop} (hL : s.heap.IsTuple l items)
    (h : ∀ h', IsEnum h' (s.heap.objs.size + 1) s.heap.objs.size 0 .none → h'.IsTupleIter s.heap.objs.size l 0 → h'.objs.size = s.heap.objs.size + 2 → (∀ b o, s.heap.get? b = some o → h'.get? b = some o) → Q (.ref (s.heap.objs.size + 1)) { s with heap := h' }) :
    wpAny (model prog w) A (call (.type "enumerate") [.ref l]) Q E s := by
  obtain ⟨o, ho, hc, ho2⟩ := id hL
  refine callType_new F.called_enumerate (by decide) (F.typeCall_enumerate_1 _) (F.newCall_enumerate_1 _) (fun obj => F.args_object_init_2 obj _) F.entry_enumerate_new (en_new l items o) ⟨ho, hc, hL, ?_⟩
  have hz : (s.heap.push (tupIt l)).objs.size = s.heap.objs.size + 1 := Heap.size_push ..
  show _ ∧ _
  rw [hz]
  have he : IsEnum ((s.heap.push (tupIt l)).push (enIt s.heap.objs.size)) (s.heap.objs.size + 1) s.heap.objs.size 0 .none := by
    have t := Heap.get?_push_size (s.heap.push (tupIt l)) (o := enIt s.heap.objs.size) rfl
    rw [hz] at t
    exact t
  refine ⟨⟨_, he, rfl⟩, h _ he ⟨_, Heap.get?_push_of_some _ (Heap.get?_push_size _ rfl), rfl, rfl⟩ (by rw [Heap.size_push, hz]) fun b o q => ?_⟩
  exact Heap.get?_push_of_some _ (Heap.get?_push_of_some _ q)
/-- the tuple at a, each item in a new pair behind its place -/
def IteT (K : PySem.W.Frag) (a : Addr) : It :=
  ⟨fun i H => ∃ xs x, SqT K H a xs ∧ xs[i]? = some x, fun i H v H' => ∃ t x, v = .ref t ∧ H t = none ∧ H' = upd H t (.tup [.int (i : Nat), x]) ∧ ∀ xs, SqT K H a xs → xs[i]? = some x,
   fun i H => ∃ xs, SqT K H a xs ∧ xs.length = i⟩
theorem turn_enT {P : Program} {w : World} {K : PySem.W.Frag} {elts : List Expr} {kk : Nat} {tpos : Pos} (a e it : Addr) :
    Turn P w K (.Tuple elts kk tpos) (IteT K a) [e, it] e (fun i h => (∃ old, IsEnum h e it ((i : Nat) : Int) old) ∧ h.IsTupleIter it a i ∧ e ≠ it) := by
  refine ⟨by simp, fun i h st b hb => ?_, fun i h h' st k => ?_, ?_, ?_, fun A i s Q E st h => ?_⟩
  · obtain ⟨⟨old, he⟩, ⟨o, ho, hc, hd⟩, _⟩ := st
    rcases List.mem_cons.mp hb with z | z
    · rw [z]; exact ⟨_, he, fun v q => nomatch q⟩
    · rw [List.mem_singleton.mp z]; exact ⟨o, ho, fun v q => by rw [hd] at q; cases q⟩
  · obtain ⟨⟨old, he⟩, hi, hne⟩ := st
    exact ⟨⟨old, k e (by simp) _ he⟩, hi.at fun o q => k it (by simp) o q, hne⟩
  · intro X hP hw hK hc i pins s σ H E I hf st hg
    subst hP hw hK
    obtain ⟨⟨old, he⟩, hit, hne⟩ := st
    obtain ⟨xs, x, hq, hx⟩ := hg
    obtain ⟨its, rv, pt, hz⟩ := I.tuple hq
    have pt' : s.heap.IsTuple a its.toArray := pt
    obtain ⟨u, hu, ru⟩ := rv.get hx
    have hel : e < s.heap.objs.size := Heap.lt_size he
    have hil : it < s.heap.objs.size := by obtain ⟨_, q, _⟩ := hit; exact Heap.lt_size q
    have nai : a ≠ it := by
      rintro rfl
      obtain ⟨o, ho, hcl, _⟩ := hit
      obtain ⟨o', ho', hcl', _⟩ := pt'
      rw [ho] at ho'; cases ho'
      rw [hcl] at hcl'; simp at hcl'
    have nae : a ≠ e := by
      rintro rfl
      obtain ⟨o', ho', hcl', _⟩ := pt'
      have he' : s.heap.get? a = some _ := he
      rw [ho'] at he'
      cases he'
      simp at hcl'
    have Dr := Draws.tuple (prog := X.prog) (w := X.w) (A := X.A.in1) (I.ok.hd hc) it a nai its.toArray
    have lt : i < its.toArray.size := by
      have := (List.getElem?_eq_some_iff.mp hu).1
      simpa using this
    refine wpAny_pyNext_enum_itemD Dr he ⟨hit, pt'⟩ lt hne (by simp [hne, Ne.symm nae]) fun x2 h' tk hx2 ho hst' hT hsz hk => ?_
    have ex : x2 = u := by
      have e1 : its.toArray[i]? = some x2 := hx2
      have e2 : its.toArray[i]? = some u := by simpa using hu
      rw [e1] at e2
      exact Option.some.inj e2
    subst ex
    refine ⟨_, rfl, wpAny_letOwnedTupleGo_enum (s := { s with heap := h', toks := tk + 1 }) ho fun h'' he' sb => ?_⟩
    have hT2 : h''.get? s.heap.objs.size = some { cls := .type "tuple", data := .seq #[.int i tk, x2] } := (sb.2 _ (Nat.ne_of_gt hel)).trans hT
    have hrel : Vals [V.int (i : Nat), x] [.int i tk, x2] := .cons ⟨tk, rfl⟩ (.cons ru .nil)
    have new : ObjOk X.prog X.w (upd H s.heap.objs.size (.tup [.int (i : Nat), x])) h'' s.heap.objs.size (.tup [.int (i : Nat), x]) := ⟨by show 2 ≤ sizeLine; decide, _, hrel, ⟨_, hT2, rfl, _, rfl⟩⟩
    have I1 : Inv X pins σ (upd H s.heap.objs.size (.tup [.int (i : Nat), x])) { s with heap := h'', toks := tk + 1 } := by
      refine I.turnedNew (ch := [e, it]) (fun b ob hb q => ?_) hf (Nat.le_refl _) new
      have b1 : b ≠ e := fun z => hb (by simp [z])
      have b2 : b ≠ it := fun z => hb (by simp [z])
      exact (sb.2 b b1).trans (hk b ob b1 b2 q)
    refine ⟨.ref s.heap.objs.size, _, I1, rfl, ⟨_, x, rfl, I.hok.fresh (Nat.le_refl _), rfl, fun ys hy => by rw [I.tuple_inj hy hq]; exact hx⟩, ⟨⟨x2, ?_⟩, hst'.1.at fun o q => (sb.2 it (Ne.symm hne)).trans q, hne⟩, fun b hb => ?_⟩
    · rw [show ((i + 1 : Nat) : Int) = (i : Int) + 1 by omega]
      exact he'
    · have hb' : b < s.heap.objs.size := by
        rcases List.mem_cons.mp hb with z | z
        · rw [z]; exact hel
        · rw [List.mem_singleton.mp z]; exact hil
      rw [upd_ne (Nat.ne_of_lt hb')]
      exact (hf b hb).1
  · intro X hP hw hK hc i pins s σ H E I hf st hg
    subst hP hw hK
    obtain ⟨⟨old, he⟩, hit, hne⟩ := st
    obtain ⟨xs, hq, hx⟩ := hg
    obtain ⟨its, rv, pt, hz⟩ := I.tuple hq
    have pt' : s.heap.IsTuple a its.toArray := pt
    obtain ⟨f0, f1, f2, f3, f4, f5⟩ := hf it (by simp)
    have nai : a ≠ it := by
      rintro rfl
      obtain ⟨o, ho, hcl, _⟩ := hit
      obtain ⟨o', ho', hcl', _⟩ := pt'
      rw [ho] at ho'; cases ho'
      rw [hcl] at hcl'; simp at hcl'
    have Dr := Draws.tuple (prog := X.prog) (w := X.w) (A := X.A.in1) (I.ok.hd hc) it a nai its.toArray
    have hn : its.toArray.size = i := by rw [List.size_toArray, ← rv.length]; exact hx
    refine wpAny_pyNext_enum_endD Dr he (by rw [hn]; exact ⟨hit, pt'⟩) fun h' eb => ⟨rfl, I.turned (t' := s.toks) (fun b o hb q => eb b o hb q) f0 f1 f3 f4 f5⟩
  · obtain ⟨⟨_, he⟩, _⟩ := st
    exact wpAny_pyIter_enum he h
def iEnumA (K : PySem.W.Frag) (ta : TA) : TI := fun σ H R => ta σ H fun vs H1 => ∃ a xs, vs = [.ref a] ∧ ((SqL K H1 a xs ∧ R (Ite K a) H1) ∨ (SqT K H1 a xs ∧ R (IteT K a) H1))
theorem pi_enumA {X : Cx} {e : Expr} {ta : TA} {p pos tpos : Pos} {elts : List Expr} {kk : Nat} (hg : Gl X "enumerate") (hm : X.mg "enumerate" = none) (ha : PA X [e] ta) (hs : starEach [e] X.env = [(false, eval e X.env)] := by rfl) :
    PI X (.Tuple elts kk tpos) (.Call (.Name "enumerate" p) [e] [] pos) (iEnumA X.K ta) := by
  constructor
  intro pins s σ H R I h
  refine PyProof.Rows.Call_ (ld_blt I hg hm PyProof.Rows.boot_enumerate (PyProof.Rows.callWith_type1 (thn (ha.run pos pins s σ H _ I h) fun us s1 w => ?_) hs rfl))
  obtain ⟨vs, H1, I1, r1, a, xs, ex, q⟩ := w
  subst ex
  cases r1 with
  | cons r rr =>
    cases rr
    cases r
    have fresh : ∀ b ∈ [s1.heap.objs.size + 1, s1.heap.objs.size], FpOk X pins H1 b := fun b hb => by
      have hle : s1.heap.objs.size ≤ b := by
        rcases List.mem_cons.mp hb with z | z
        · rw [z]; exact Nat.le_succ _
        · rw [List.mem_singleton.mp z]; exact Nat.le_refl _
      exact I1.fpOk hle (I1.hok.fresh hle)
    rcases q with ⟨hq, q⟩ | ⟨hq, q⟩
    · obtain ⟨its, rv, pl, hz⟩ := I1.list hq
      refine call_enumerate_list pl.isList fun h' he hit hsz hk => wpAny_pyIter_enum he ?_
      exact ⟨_, _, _, _, H1, rfl, I1.kept (t' := s1.toks) hk, turn_enum a _ _, ⟨⟨.none, he⟩, hit, Nat.succ_ne_self _⟩, fresh, q⟩
    · obtain ⟨its, rv, pt, hz⟩ := I1.tuple hq
      have pt' : s1.heap.IsTuple a its.toArray := pt
      refine en_call pt' fun h' he hit hsz hk => wpAny_pyIter_enum he ?_
      exact ⟨_, _, _, _, H1, rfl, I1.kept (t' := s1.toks) hk, turn_enT a _ _, ⟨⟨.none, he⟩, hit, Nat.succ_ne_self _⟩, fresh, q⟩
theorem walk_enT {K : PySem.W.Frag} {a : Addr} {xs : List V} : Walk (IteT K a) xs.length (fun H => SqT K H a xs) (YPair (fun i => some (.int (i : Nat))) (fun i => xs[i]?)) := by
  refine ⟨fun i _ hi q => ⟨xs, xs[i], q, by simp [hi]⟩, fun _ q => ⟨xs, q, rfl⟩, fun i H v H' _ q y => ?_⟩
  obtain ⟨t, x, h1, h2, h3, h4⟩ := y
  exact ⟨t, _, x, h1, h2, h3, rfl, h4 xs q⟩
end FL
namespace FL
open PySem PySem.Spec L2
/-! ### statements -/
inductive Fl where | nx | br | co | rt (d : D) | rtL (ds : List D)
def SQ (K : PySem.W.Frag) (x : Cf) (Dn : Ends) : Fl → Cf → Prop := fun fl y => match fl with
  | .nx => Dn.nx y.s y.H
  | .br => Dn.bk y.s y.H
  | .co => Dn.ct y.s y.H
  | .rt d => ∀ v, Rep K y.F v d → Dn.rt v y.H
  | .rtL ds => ∀ p us, FreshAt K y p us ds → (x.H p = none ∨ ∃ i, CelAt x i .own p) → Dn.rt (.ref p) y.H
theorem SQ.shift {K : PySem.W.Frag} {T : List Nat} {x y : Cf} {Dn : Ends} (f : Fr T x y) {fl : Fl} {z : Cf} (h : SQ K x Dn fl z) : SQ K y Dn fl z := by
  cases fl <;> try exact h
  intro p us hp q
  refine h p us hp ?_
  rcases q with q | ⟨i, q⟩
  · exact .inl (f.dm p q)
  · rcases f.cc i _ p q with ⟨_, g⟩ | g
    · exact .inl g
    · exact .inr ⟨i, g⟩
section
variable (X : Cx) (W : WX) (T : List Nat)
def EvS (ts : TS) (f : M Fl) : Prop := ∀ (x : Cf) (Dn : Ends), RSt X.K x → Post X.K X.mg T W x (f x.r) (SQ X.K x Dn) → ts Dn x.s x.H
structure SS (st : Stmt) (f : M Fl) : Prop where
  ex : ∃ ts, PS X st ts ∧ EvS X W T ts f
structure SSs (sts : List Stmt) (f : M Fl) : Prop where
  ex : ∃ ts, PSs X sts ts ∧ EvS X W T ts f
/-- a target -/
def EvG (g : TG) (f : D → M Unit) : Prop := ∀ (x : Cf) (v : V) (d : D) (Q : L2.St → Hp → Prop), RSt X.K x → Rep X.K x.F v d → Post X.K X.mg T W x (f d x.r) (fun _ y => Q y.s y.H) → g v x.s x.H Q
def EvGs (g : TGs) (f : List D → M Unit) : Prop := ∀ (x : Cf) (vs : List V) (ds : List D) (Q : L2.St → Hp → Prop), RSt X.K x → RepL X.K x.F vs ds → Post X.K X.mg T W x (f ds x.r) (fun _ y => Q y.s y.H) → g vs x.s x.H Q
structure SG (tg : Expr) (f : D → M Unit) : Prop where
  ex : ∃ g, PG X tg g ∧ EvG X W T g f
structure SGs (tgs : List Expr) (f : List D → M Unit) : Prop where
  ex : ∃ g, PGs X tgs g ∧ EvGs X W T g f
end
section
variable {X : Cx} {W : WX} {T : List Nat} {K : PySem.W.Frag}
def sSeq (f g : M Fl) : M Fl := mB f fun fl => match fl with
  | .nx => g
  | o => mP o
theorem post_ok {α : Type} {mg : Str → Option Value} {x y : Cf} {a : α} {Q : α → Cf → Prop} (h : Post K mg T W x (.ok a y.r) Q) (f : Fr T x y) (s : RSt K y) : Q a y := h y rfl f s
theorem EvS.seq {t u : TS} {f g : M Fl} (hf : EvS X W T t f) (hg : EvS X W T u g) : EvS X W T (tSeq t u) (sSeq f g) := by
  intro x Dn s p
  refine hf x { Dn with nx := u Dn } s ?_
  unfold sSeq mB at p
  cases e : f x.r with
  | ok fl ρ =>
    simp only [e] at p
    intro y hy fr sy
    rw [← hy] at p
    cases fl with
    | nx => exact hg y Dn sy ((p.shift fr).mono fun a z _ _ q => SQ.shift fr q)
    | br => exact p y rfl fr sy
    | co => exact p y rfl fr sy
    | rt d => exact p y rfl fr sy
    | rtL ds => exact p y rfl fr sy
  | exc c pl ρ => simp only [e] at p; exact p
  | bad => simp only [e] at p; exact p
theorem ss_nil : SSs X W T [] (mP .nx) := ⟨_, pss_nil, fun x Dn s p => p x rfl (Fr.refl T x) s⟩
theorem ss_cons {st : Stmt} {sts : List Stmt} {f g : M Fl} (h : SS X W T st f) (hs : SSs X W T sts g) : SSs X W T (st :: sts) (sSeq f g) := by
  obtain ⟨t, p, e⟩ := h.ex
  obtain ⟨u, q, e2⟩ := hs.ex
  exact ⟨_, pss_cons p q, e.seq e2⟩
theorem ss_one {st : Stmt} {f : M Fl} (h : SS X W T st f) : SSs X W T [st] f := by
  obtain ⟨t, p, e⟩ := h.ex
  exact ⟨_, pss_one p, e⟩
theorem ss_pass {pos} : SS X W T (.Pass pos) (mP .nx) := ⟨_, ps_pass, fun x Dn s p => p x rfl (Fr.refl T x) s⟩
theorem ss_break {pos} : SS X W T (.Break pos) (mP .br) := ⟨_, ps_break, fun x Dn s p => p x rfl (Fr.refl T x) s⟩
theorem ss_cont {pos} : SS X W T (.Continue pos) (mP .co) := ⟨_, ps_continue, fun x Dn s p => p x rfl (Fr.refl T x) s⟩
def sIf (c : M Bool) (a b : M Fl) : M Fl := mB c fun k => if k then a else b
theorem ss_if {c : Expr} {a b : List Stmt} {pos : Pos} {fc : M Bool} {fa fb : M Fl} (hc : ST X W T c fc) (ha : SSs X W T a fa) (hb : SSs X W T b fb) : SS X W T (.If c a b pos) (sIf fc fa fb) := by
  obtain ⟨tc, pc, ec⟩ := hc.ex
  obtain ⟨ta, pa, ea⟩ := ha.ex
  obtain ⟨tb, pb, eb⟩ := hb.ex
  refine ⟨_, ps_if pc pa pb, fun x Dn s p => ?_⟩
  refine ec.bind s p fun k y f1 s1 e1 p1 => ?_
  have p2 := p1.mono fun a z _ _ q => SQ.shift f1 q
  cases k with
  | true =>
    show ta Dn x.s y.H
    rw [← e1]
    exact ea y Dn s1 p2
  | false =>
    show tb Dn x.s y.H
    rw [← e1]
    exact eb y Dn s1 p2
def sExpr (m : M D) : M Fl := mB m fun _ => mP .nx
theorem ss_expr {e : Expr} {pos : Pos} {f : M D} (h : SE X W T e f) (hs : swapsWith e none pos.line X.env = pure false := by rfl) : SS X W T (.Expr e pos) (sExpr f) := by
  obtain ⟨te, pe, ev⟩ := h.ex
  refine ⟨_, ps_expr pe hs, fun x Dn s p => ?_⟩
  refine ev.bind s p fun d y f1 s1 e1 v hv p1 => ?_
  show Dn.nx x.s y.H
  rw [← e1]
  exact p1 y rfl (Fr.refl T y) s1
def sRet (m : M D) : M Fl := mB m fun d => mP (.rt d)
theorem ss_ret {e : Expr} {pos : Pos} {f : M D} (h : SE X W T e f) : SS X W T (.Return (some e) pos) (sRet f) := by
  obtain ⟨te, pe, ev⟩ := h.ex
  refine ⟨_, ps_ret pe, fun x Dn s p => ?_⟩
  exact ev.bind s p fun d y f1 s1 e1 v hv p1 => p1 y rfl (Fr.refl T y) s1 v hv
theorem ss_retN {pos : Pos} : SS X W T (.Return none pos) (mP (.rt .non)) := ⟨_, ps_retN, fun x Dn s p => p x rfl (Fr.refl T x) s _ .non⟩
theorem EvL.bind {α : Type} {te : TE} {f : M (List D)} {k : List D → M α} {x : Cf} {Q : VK} {Qf : α → Cf → Prop} (h : EvL X W T te f) (s : RSt X.K x) (p : Post X.K X.mg T W x (mB f k x.r) Qf)
    (n : ∀ ds y, Fr T x y → RSt X.K y → y.s = x.s → ∀ q us, FreshAt X.K y q us ds → x.H q = none → (∀ i k, ¬ CelAt y i k q) → Post X.K X.mg T W y (k ds y.r) Qf → Q (.ref q) y.H) : te x.s x.H Q := by
  refine h x Q s ?_
  unfold mB at p
  cases e : f x.r with
  | ok d ρ =>
    simp only [e] at p
    intro y hy fr sy hs q us h1 h2 h3
    rw [← hy] at p
    exact n d y fr sy hs q us h1 h2 h3 (p.shift fr)
  | exc c pl ρ => simp only [e] at p; exact p
  | bad => simp only [e] at p; exact p
def sRetL (m : M (List D)) : M Fl := mB m fun ds => mP (.rtL ds)
theorem ss_retL {e : Expr} {pos : Pos} {f : M (List D)} (h : SL X W T e f) : SS X W T (.Return (some e) pos) (sRetL f) := by
  obtain ⟨te, pe, ev⟩ := h.ex
  refine ⟨_, ps_ret pe, fun x Dn s p => ?_⟩
  exact ev.bind s p fun ds y f1 s1 e1 q us h1 h2 h3 p1 => p1 y rfl (Fr.refl T y) s1 q us h1 (.inl h2)
/-- return of a list of one's own -/
def sRetC (i : Nat) : M Fl := fun r => match r[i]? with
  | some (.cel .own ds) => .ok (.rtL ds) r
  | _ => .bad
theorem ss_retC (i : Nat) {x : Str} {p1 pos : Pos} (hN : X.N[i]? = some x := by rfl) (hv : Vis X.env.scope x := by first | exact Or.inl rfl | exact Or.inr (Or.inl rfl) | exact Or.inr (Or.inr rfl)) (hd : (x == ("__debug__" : Str)) = false := by decide)
    (hc : (x == ("__classdict__" : Str)) = false := by decide) : SS X W T (.Return (some (.Name x p1)) pos) (sRetC i) := by
  refine ⟨_, ps_ret (pe_var (i := i) hN hv hd hc), fun x Dn s p => ?_⟩
  unfold sRetC at p
  split at p
  · rename_i ds e
    obtain ⟨q, h1, us, h2, h3, h4⟩ := s.cel i _ ds e
    exact ⟨_, h1, p x rfl (Fr.refl T x) s q us ⟨h3, h4, h2⟩ (.inr ⟨i, ⟨ds, e⟩, h1⟩)⟩
  · exact p.elim
/-! ### stores -/
/-- slot i holds d -/
def setv (i : Nat) (d : D) : M Unit := fun r => if i < r.length then .ok () (r.set i (.val d)) else .bad
theorem get_set {α : Type} {l : List α} {i j : Nat} {a b : α} (h : (l.set i a)[j]? = some b) : (i = j ∧ a = b ∧ i < l.length) ∨ (i ≠ j ∧ l[j]? = some b) := by
  by_cases e : i = j
  · subst e
    by_cases hl : i < l.length
    · rw [List.getElem?_set_self hl] at h
      exact .inl ⟨rfl, Option.some.inj h, hl⟩
    · rw [List.getElem?_eq_none (by simpa using hl)] at h; cases h
  · rw [List.getElem?_set_ne e] at h
    exact .inr ⟨e, h⟩
theorem setv_cel {x : Cf} {i : Nat} {v : V} {d : D} {j : Nat} {k : CK} {p : Addr} (h : CelAt ⟨x.F, x.H, x.s.set i (some v), x.r.set i (.val d)⟩ j k p) : i ≠ j ∧ CelAt x j k p := by
  obtain ⟨⟨es, h1⟩, h2⟩ := h
  rcases get_set h1 with ⟨_, e, _⟩ | ⟨e, g⟩
  · cases e
  · refine ⟨e, ⟨es, g⟩, ?_⟩
    have h2' : (x.s.set i (some v))[j]? = some (some (.ref p)) := h2
    rwa [List.getElem?_set_ne e] at h2'
theorem setv_ok {x : Cf} {i : Nat} {v : V} {d : D} (s : RSt K x) (h : Rep K x.F v d) (hi : i ∈ T) : Fr T x ⟨x.F, x.H, x.s.set i (some v), x.r.set i (.val d)⟩ ∧ RSt K ⟨x.F, x.H, x.s.set i (some v), x.r.set i (.val d)⟩ := by
  constructor
  · refine ⟨List.length_set .., Same.refl _, fun _ h => h, fun a o e => .inl ⟨o, e⟩, fun a o e _ => e, fun j k p c => .inr (setv_cel c).2, fun j hj => ?_⟩
    have ne : i ≠ j := fun e => hj (e ▸ hi)
    exact ⟨List.getElem?_set_ne ne, List.getElem?_set_ne ne⟩
  · refine ⟨s.sub, by show (x.s.set i _).length = (x.r.set i _).length; rw [List.length_set, List.length_set]; exact s.len, fun j e h1 => ?_, fun j k es h1 => ?_, fun j l k k' p c c' => s.dis j l k k' p (setv_cel c).2 (setv_cel c').2⟩
    · rcases get_set h1 with ⟨e1, e2, hl⟩ | ⟨e1, g⟩
      · subst e1
        cases e2
        exact ⟨v, by show (x.s.set i _)[i]? = _; rw [List.getElem?_set_self (by rw [s.len]; exact hl)], h⟩
      · obtain ⟨w, h2, h3⟩ := s.val j e g
        exact ⟨w, by show (x.s.set i _)[j]? = _; rw [List.getElem?_set_ne e1]; exact h2, h3⟩
    · rcases get_set h1 with ⟨e1, e2, hl⟩ | ⟨e1, g⟩
      · cases e2
      · obtain ⟨q, h2, h3⟩ := s.cel j k es g
        exact ⟨q, by show (x.s.set i _)[j]? = _; rw [List.getElem?_set_ne e1]; exact h2, h3⟩
theorem setv_run {x : Cf} {i : Nat} {v : V} {d : D} {α : Type} {k : M α} {Q : α → Cf → Prop} (s : RSt X.K x) (h : Rep X.K x.F v d) (hi : i ∈ T) (p : Post X.K X.mg T W x (mB (setv i d) (fun _ => k) x.r) Q) :
    Post X.K X.mg T W ⟨x.F, x.H, x.s.set i (some v), x.r.set i (.val d)⟩ (k (x.r.set i (.val d))) Q ∧ Fr T x ⟨x.F, x.H, x.s.set i (some v), x.r.set i (.val d)⟩ ∧ RSt X.K ⟨x.F, x.H, x.s.set i (some v), x.r.set i (.val d)⟩ := by
  obtain ⟨f, s1⟩ := setv_ok s h hi
  unfold mB setv at p
  by_cases c : i < x.r.length
  · simp only [c, if_true] at p
    exact ⟨p.shift f, f, s1⟩
  · simp only [c, if_false] at p
    exact p.elim
def sSet (i : Nat) (m : M D) : M Fl := mB m fun d => mB (setv i d) fun _ => mP .nx
theorem ev_set (i : Nat) {te : TE} {f : M D} (ev : EvE X W T te f) (hT : i ∈ T) : EvS X W T (tAsg te (gName i)) (sSet i f) := by
  intro x Dn s p
  refine ev.bind s p fun d y f1 s1 e1 v hv p1 => ?_
  obtain ⟨p2, f2, s2⟩ := setv_run s1 hv hT p1
  show Dn.nx (x.s.set i (some v)) y.H
  rw [← e1]
  exact p2 _ rfl (Fr.refl T _) s2
theorem ss_set (i : Nat) {x : Str} {e : Expr} {f : M D} {pos pos' : Pos} (hN : X.N.Nodup) (he : SE X W T e f) (hi : X.N[i]? = some x := by rfl) (hx : Loc X.env.scope x := by first | exact Or.inl rfl | exact Or.inr rfl) (hT : i ∈ T := by decide)
    (hs : swapsWith e (some (.Name x pos')) pos.line X.env = pure false := by rfl) (hf : X.fn x = true ∨ X.env.scope.names.lookup x = some .local := by first | exact .inl rfl | exact .inr rfl) : SS X W T (.Assign [.Name x pos'] e pos) (sSet i f) := by
  obtain ⟨te, pe, ev⟩ := he.ex
  exact ⟨_, ps_set hN hi hx pe hs hf, ev_set i ev hT⟩
def setc (i : Nat) (k : CK) (ds : List D) : M Unit := fun r => if i < r.length then .ok () (r.set i (.cel k ds)) else .bad
def sSetL (i : Nat) (m : M (List D)) : M Fl := mB m fun ds => mB (setc i .own ds) fun _ => mP .nx
theorem setc_ok {x : Cf} {i : Nat} {p : Addr} {us : List V} {ds : List D} (s : RSt K x) (h : FreshAt K x p us ds) (nc : ∀ i k, ¬ CelAt x i k p) :
    (∀ j k q, CelAt ⟨x.F, x.H, x.s.set i (some (.ref p)), x.r.set i (.cel .own ds)⟩ j k q → (j = i ∧ k = .own ∧ q = p) ∨ (j ≠ i ∧ CelAt x j k q)) ∧ RSt K ⟨x.F, x.H, x.s.set i (some (.ref p)), x.r.set i (.cel .own ds)⟩ := by
  have key : ∀ j k q, CelAt ⟨x.F, x.H, x.s.set i (some (.ref p)), x.r.set i (.cel .own ds)⟩ j k q → (j = i ∧ k = .own ∧ q = p) ∨ (j ≠ i ∧ CelAt x j k q) := fun j k q c => by
    obtain ⟨⟨es, h1⟩, h2⟩ := c
    have h2' : (x.s.set i (some (V.ref p)))[j]? = some (some (.ref q)) := h2
    rcases get_set h1 with ⟨e, e2, _⟩ | ⟨e, g⟩
    · subst e
      cases e2
      rcases get_set h2' with ⟨_, e3, _⟩ | ⟨e3, _⟩
      · cases e3; exact .inl ⟨rfl, rfl, rfl⟩
      · exact (e3 rfl).elim
    · rw [List.getElem?_set_ne e] at h2'
      exact .inr ⟨Ne.symm e, ⟨es, g⟩, h2'⟩
  refine ⟨key, s.sub, by show (x.s.set i _).length = (x.r.set i _).length; rw [List.length_set, List.length_set]; exact s.len, fun j e h1 => ?_, fun j k es h1 => ?_, fun j l k k' q c c' => ?_⟩
  · rcases get_set h1 with ⟨_, e2, _⟩ | ⟨e1, g⟩
    · cases e2
    · obtain ⟨w, h2, h3⟩ := s.val j e g
      exact ⟨w, by show (x.s.set i _)[j]? = _; rw [List.getElem?_set_ne e1]; exact h2, h3⟩
  · rcases get_set h1 with ⟨e1, e2, hl⟩ | ⟨e1, g⟩
    · subst e1
      cases e2
      exact ⟨p, by show (x.s.set i _)[i]? = _; rw [List.getElem?_set_self (by rw [s.len]; exact hl)], us, h.2.2, h.1, h.2.1⟩
    · obtain ⟨q, h2, h3⟩ := s.cel j k es g
      exact ⟨q, by show (x.s.set i _)[j]? = _; rw [List.getElem?_set_ne e1]; exact h2, h3⟩
  · rcases key j k q c with ⟨a1, a2, a3⟩ | ⟨a1, a2⟩
    · rcases key l k' q c' with ⟨b1, b2, b3⟩ | ⟨b1, b2⟩
      · rw [a1, b1]
      · rw [a3] at b2; exact (nc _ _ b2).elim
    · rcases key l k' q c' with ⟨b1, b2, b3⟩ | ⟨b1, b2⟩
      · rw [b3] at a2; exact (nc _ _ a2).elim
      · exact s.dis j l k k' q a2 b2
theorem ev_setL (i : Nat) {te : TE} {f : M (List D)} (ev : EvL X W T te f) (hT : i ∈ T) : EvS X W T (tAsg te (gName i)) (sSetL i f) := by
  intro x Dn s p
  refine ev x _ s ?_
  unfold sSetL mB at p
  cases e : f x.r with
  | exc c pl ρ => simp only [e] at p; exact p
  | bad => simp only [e] at p; exact p
  | ok ds ρ =>
    simp only [e] at p
    intro y hy f1 s1 e1 q us h1 h2 h3
    rw [← hy] at p
    obtain ⟨key, s2⟩ := setc_ok (i := i) s1 h1 h3
    unfold setc at p
    by_cases c : i < y.r.length
    · simp only [c, if_true] at p
      show Dn.nx (x.s.set i (some (.ref q))) y.H
      rw [← e1]
      refine p ⟨y.F, y.H, y.s.set i (some (.ref q)), y.r.set i (.cel .own ds)⟩ rfl ⟨(List.length_set ..).trans f1.ln, f1.ff, f1.dm, f1.nw, f1.hp, fun j k a cc => ?_, fun j hj => ?_⟩ s2
      · rcases key j k a cc with ⟨_, a2, a3⟩ | ⟨_, a2⟩
        · exact .inl ⟨a2, by rw [a3]; exact h2⟩
        · exact f1.cc j k a a2
      · have ne : i ≠ j := fun z => hj (z ▸ hT)
        obtain ⟨g1, g2⟩ := f1.un j hj
        exact ⟨(List.getElem?_set_ne ne).trans g1, (List.getElem?_set_ne ne).trans g2⟩
    · simp only [c, if_false] at p
      exact p.elim
theorem ss_setL (i : Nat) {x : Str} {e : Expr} {f : M (List D)} {pos pos' : Pos} (hN : X.N.Nodup) (he : SL X W T e f) (hi : X.N[i]? = some x := by rfl) (hx : Loc X.env.scope x := by first | exact Or.inl rfl | exact Or.inr rfl) (hT : i ∈ T := by decide)
    (hs : swapsWith e (some (.Name x pos')) pos.line X.env = pure false := by rfl) (hf : X.fn x = true ∨ X.env.scope.names.lookup x = some .local := by first | exact .inl rfl | exact .inr rfl) : SS X W T (.Assign [.Name x pos'] e pos) (sSetL i f) := by
  obtain ⟨te, pe, ev⟩ := he.ex
  exact ⟨_, ps_set hN hi hx pe hs hf, ev_setL i ev hT⟩
end
end FL
namespace FL
open PySem PySem.Spec L2
section
variable {X : Cx} {W : WX} {T : List Nat} {K : PySem.W.Frag}
/-! ### targets -/
theorem sg_name (i : Nat) {x : Str} {pos : Pos} (hN : X.N.Nodup) (hi : X.N[i]? = some x := by rfl) (hx : Loc X.env.scope x := by first | exact Or.inl rfl | exact Or.inr rfl) (hT : i ∈ T := by decide)
    (hf : X.fn x = true ∨ X.env.scope.names.lookup x = some .local := by first | exact .inl rfl | exact .inr rfl) : SG X W T (.Name x pos) (setv i) := by
  refine ⟨_, pg_name hN hi hx hf, fun x v d Q s h p => ?_⟩
  obtain ⟨f, s1⟩ := setv_ok (d := d) s h hT
  unfold setv at p
  by_cases c : i < x.r.length
  · simp only [c, if_true] at p
    exact p _ rfl f s1
  · simp only [c, if_false] at p
    exact p.elim
def gsCons (f : D → M Unit) (g : List D → M Unit) : List D → M Unit := fun ds => match ds with
  | d :: r => mB (f d) fun _ => g r
  | [] => fun _ => .bad
def gsNil : List D → M Unit := fun ds => match ds with
  | [] => mP ()
  | _ => fun _ => .bad
theorem sgs_nil : SGs X W T [] gsNil := ⟨_, pgs_nil, fun x vs ds Q s h p => by
  cases h with
  | nil => exact ⟨rfl, p x rfl (Fr.refl T x) s⟩
  | cons _ _ => exact p.elim⟩
theorem sgs_cons {t : Expr} {ts : List Expr} {f : D → M Unit} {g : List D → M Unit} (h : SG X W T t f) (hs : SGs X W T ts g) (ha : (assignEach (t :: ts) X.env).map (·.2) = assign t X.env :: (assignEach ts X.env).map (·.2) := by rfl) : SGs X W T (t :: ts) (gsCons f g) := by
  obtain ⟨u, pu, eu⟩ := h.ex
  obtain ⟨v, pv, ev⟩ := hs.ex
  refine ⟨_, pgs_cons pu pv ha, fun x vs ds Q s h p => ?_⟩
  cases h with
  | nil => exact p.elim
  | @cons a as d ds h r =>
    refine ⟨a, as, rfl, eu x a d _ s h ?_⟩
    show Post _ _ _ _ _ (f d x.r) _
    have p' : Post X.K X.mg T W x (mB (f d) (fun _ => g ds) x.r) (fun _ y => Q y.s y.H) := p
    unfold mB at p'
    cases e : f d x.r with
    | exc c pl ρ => simp only [e] at p'; exact p'
    | bad => simp only [e] at p'; exact p'
    | ok z ρ =>
      simp only [e] at p'
      intro y hy fr sy
      rw [← hy] at p'
      exact ev y as ds Q sy (r.mono fr.ff) (p'.shift fr)
def gsTup (n : Nat) (g : List D → M Unit) : D → M Unit := fun d => match d with
  | .tup ds => if ds.length = n then g ds else fun _ => .bad
  | _ => fun _ => .bad
theorem sg_tup {es : List Expr} {k : Nat} {pos : Pos} {g : List D → M Unit} {n : Nat} (hc : X.calm = true) (h : SGs X W T es g) (hn : (assignEach es X.env).length = n := by rfl) (hst : (assignEach es X.env).findIdx? (·.1) = none := by rfl) :
    SG X W T (.Tuple es k pos) (gsTup n g) := by
  obtain ⟨u, pu, eu⟩ := h.ex
  refine ⟨_, pg_tup hc pu hn hst, fun x v d Q s h p => ?_⟩
  cases d <;> try exact p.elim
  rename_i ds
  cases h with
  | tup ha r =>
    have p' : Post X.K X.mg T W x ((if ds.length = n then g ds else fun _ => .bad) x.r) (fun _ y => Q y.s y.H) := p
    by_cases c : ds.length = n
    · rw [if_pos c] at p'
      exact ⟨_, _, rfl, sameT s.sub ha, by rw [r.length]; exact c, eu x _ ds Q s r p'⟩
    · rw [if_neg c] at p'
      exact p'.elim
/-- slot j's list with another item at a place -/
def updc (j : Nat) (f : List D → Option (List D)) : M Unit := fun r => match r[j]? with
  | some (.cel k ds) => match f ds with
    | some es => .ok () (r.set j (.cel k es))
    | none => .bad
  | _ => .bad
theorem updc_ok {x : Cf} {j : Nat} {k : CK} {ds es : List D} {p : Addr} {us ws : List V} (s : RSt K x) (h : x.r[j]? = some (.cel k ds)) (hs : x.s[j]? = some (some (.ref p))) (fp : x.F p = none) (hp : x.H p = some (.lst us)) (r : RepL K x.F ws es) (hj : j ∈ T) :
    Fr T x ⟨x.F, upd x.H p (.lst ws), x.s, x.r.set j (.cel k es)⟩ ∧ RSt K ⟨x.F, upd x.H p (.lst ws), x.s, x.r.set j (.cel k es)⟩ := by
  have celx : CelAt x j k p := ⟨⟨ds, h⟩, hs⟩
  have key : ∀ i l q, CelAt ⟨x.F, upd x.H p (.lst ws), x.s, x.r.set j (.cel k es)⟩ i l q → CelAt x i l q := fun i l q ⟨⟨gs, h1⟩, h2⟩ => by
    rcases get_set h1 with ⟨e1, e2, _⟩ | ⟨e1, g⟩
    · subst e1
      cases e2
      exact ⟨⟨ds, h⟩, h2⟩
    · exact ⟨⟨gs, g⟩, h2⟩
  constructor
  · refine ⟨List.length_set .., Same.refl _, fun a e => ?_, fun a o e => .inl ⟨o, e⟩, fun a o e n => ?_, fun i l q c => .inr (key i l q c), fun i hi => ⟨List.getElem?_set_ne (fun z => hi (by rw [← z]; exact hj)), rfl⟩⟩
    · by_cases z : a = p
      · subst z
        have e' : upd x.H a (HO.lst ws) a = none := e
        rw [upd_same] at e'; cases e'
      · rw [← e]; exact (upd_ne z).symm
    · have z : a ≠ p := fun z => n j hj k (z ▸ celx)
      show upd x.H p _ a = some o
      rw [upd_ne z]; exact e
  · refine ⟨fun a o e => ?_, by show x.s.length = (x.r.set j _).length; rw [List.length_set]; exact s.len, fun i d e => ?_, fun i l gs e => ?_, fun i m l l' q c c' => s.dis i m l l' q (key _ _ _ c) (key _ _ _ c')⟩
    · have z : a ≠ p := by rintro rfl; rw [fp] at e; cases e
      show upd x.H p _ a = some o
      rw [upd_ne z]; exact s.sub a o e
    · rcases get_set e with ⟨_, e2, _⟩ | ⟨e1, g⟩
      · cases e2
      · exact s.val i d g
    · rcases get_set e with ⟨e1, e2, _⟩ | ⟨e1, g⟩
      · subst e1
        cases e2
        exact ⟨p, hs, ws, r, upd_same, fp⟩
      · obtain ⟨q, h1, vs, h2, h3, h4⟩ := s.cel i l gs g
        have z : q ≠ p := fun z => e1 (s.dis j i k l p celx ⟨⟨gs, g⟩, by rw [← z]; exact h1⟩)
        exact ⟨q, h1, vs, h2, by show upd x.H p _ q = _; rw [upd_ne z]; exact h3, h4⟩
theorem updc_run {x : Cf} {j : Nat} {f : List D → Option (List D)} {α : Type} {m : M α} {Q : α → Cf → Prop} (s : RSt X.K x) (hj : j ∈ T) (p : Post X.K X.mg T W x (mB (updc j f) (fun _ => m) x.r) Q) :
    ∃ k ds es q us, x.s[j]? = some (some (.ref q)) ∧ x.H q = some (.lst us) ∧ RepL X.K x.F us ds ∧ f ds = some es ∧
      ∀ ws, RepL X.K x.F ws es → RSt X.K ⟨x.F, upd x.H q (.lst ws), x.s, x.r.set j (.cel k es)⟩ ∧ Fr T x ⟨x.F, upd x.H q (.lst ws), x.s, x.r.set j (.cel k es)⟩ ∧ Post X.K X.mg T W ⟨x.F, upd x.H q (.lst ws), x.s, x.r.set j (.cel k es)⟩ (m (x.r.set j (.cel k es))) Q := by
  unfold mB updc at p
  cases e : x.r[j]? with
  | none => simp only [e] at p; exact p.elim
  | some en =>
    simp only [e] at p
    cases en with
    | no => exact p.elim
    | val d => exact p.elim
    | cel k ds =>
      cases g : f ds with
      | none => simp only [g] at p; exact p.elim
      | some es =>
        simp only [g] at p
        obtain ⟨q, h1, us, h2, h3, h4⟩ := s.cel j k ds e
        refine ⟨k, ds, es, q, us, h1, h3, h2, g, fun ws hw => ?_⟩
        obtain ⟨a, b⟩ := updc_ok s e h1 h4 h3 hw hj
        exact ⟨b, a, p.shift a⟩
def setIx (d i : D) (ds : List D) : Option (List D) := match i with
  | .int n => (ixN ds.length n).map fun j => ds.set j d
  | _ => none
def hasC (j : Nat) : M Unit := fun r => match r[j]? with
  | some (.cel _ _) => .ok () r
  | _ => .bad
theorem hasC_run {x : Cf} {j : Nat} {α : Type} {m : M α} {Q : α → Cf → Prop} (s : RSt X.K x) (p : Post X.K X.mg T W x (mB (hasC j) (fun _ => m) x.r) Q) :
    (∃ k ds q us, x.r[j]? = some (.cel k ds) ∧ x.s[j]? = some (some (.ref q)) ∧ x.H q = some (.lst us)) ∧ Post X.K X.mg T W x (m x.r) Q := by
  unfold mB hasC at p
  cases e : x.r[j]? with
  | none => simp only [e] at p; exact p.elim
  | some en =>
    simp only [e] at p
    cases en with
    | no => exact p.elim
    | val d => exact p.elim
    | cel k ds =>
      obtain ⟨q, h1, us, h2, h3, h4⟩ := s.cel j k ds e
      exact ⟨⟨k, ds, q, us, rfl, h1, h3⟩, p⟩
def gsSub (j : Nat) (ix : M D) : D → M Unit := fun d => mB (hasC j) fun _ => mB ix fun i => mB (updc j (setIx d i)) fun _ => mP ()
theorem sg_sub (j : Nat) {x : Str} {i : Expr} {fi : M D} {p1 pos : Pos} (hi : SE X W T i fi) (hN : X.N[j]? = some x := by rfl) (hv : Vis X.env.scope x := by first | exact Or.inl rfl | exact Or.inr (Or.inl rfl) | exact Or.inr (Or.inr rfl)) (hT : j ∈ T := by decide)
    (hd : (x == ("__debug__" : Str)) = false := by decide) (hc : (x == ("__classdict__" : Str)) = false := by decide)
    (ha : ∀ v, assign (.Subscript (.Name x p1) i pos) X.env v = (do
      let ov ← holding [v] (eval (.Name x p1) X.env)
      let iv ← holding [v, ov] (eval i X.env)
      standAt pos
      holding [v, ov, iv] (setItem ov iv v)
      release [v, ov, iv] []) := by intro _; rfl) : SG X W T (.Subscript (.Name x p1) i pos) (gsSub j fi) := by
  obtain ⟨ti, pi, ei⟩ := hi.ex
  refine ⟨_, pg_sub (pe_var (i := j) hN hv hd hc) pi set_list ha, fun x v d Q s h p => ?_⟩
  obtain ⟨⟨k, ds, q, us, e, hs, hq⟩, p1⟩ := hasC_run s p
  refine ⟨_, hs, ?_⟩
  refine ei.bind s p1 fun iv y f1 s1 e1 w hw p2 => ?_
  obtain ⟨k2, ds2, es, q2, us2, h1, h2, h3, h4, h5⟩ := updc_run s1 hT p2
  rw [e1, hs] at h1
  cases h1
  cases iv <;> try (simp [setIx] at h4; done)
  rename_i n
  cases hw
  simp only [setIx] at h4
  cases g : ixN ds2.length n with
  | none => rw [g] at h4; cases h4
  | some m =>
    rw [g] at h4
    cases h4
    obtain ⟨a, b, c⟩ := h5 (us2.set m v) (RepL.set (h.mono f1.ff) m h3)
    refine ⟨q, us2, n, m, rfl, rfl, h2, by rw [h3.length]; exact g, ?_⟩
    have := c _ rfl (Fr.refl T _) a
    show Q x.s _
    rw [← e1]
    exact this
def sAsg (m : M D) (g : D → M Unit) : M Fl := mB m fun d => mB (g d) fun _ => mP .nx
theorem ss_asg {tg e : Expr} {f : M D} {g : D → M Unit} {pos : Pos} (he : SE X W T e f) (hg : SG X W T tg g) (hs : swapsWithSole [tg] e pos.line X.env = pure false := by rfl) (hw : swappedStores [tg] e X.env = pure none := by rfl)
    (h1 : (assignEach [tg] X.env).map (·.2) = [assign tg X.env] := by rfl) : SS X W T (.Assign [tg] e pos) (sAsg f g) := by
  obtain ⟨te, pe, ev⟩ := he.ex
  obtain ⟨u, pu, eu⟩ := hg.ex
  refine ⟨_, ps_asg pe pu hs hw h1, fun x Dn s p => ?_⟩
  refine ev.bind s p fun d y f1 s1 e1 v hv p1 => ?_
  show u v x.s y.H Dn.nx
  rw [← e1]
  refine eu y v d _ s1 hv ?_
  unfold mB at p1
  cases e : g d y.r with
  | exc c pl ρ => simp only [e] at p1; exact p1
  | bad => simp only [e] at p1; exact p1
  | ok z ρ =>
    simp only [e] at p1
    intro w hw fr sw
    rw [← hw] at p1
    exact p1 w rfl fr sw
/-- a, b = e1, e2 -/
def sPar2 (i j : Nat) (m : M (List D)) : M Fl := mB m fun ds => match ds with
  | [d, e] => mB (setv i d) fun _ => mB (setv j e) fun _ => mP .nx
  | _ => fun _ => .bad
theorem ss_par2 (i j : Nat) {x y : Str} {a b : Expr} {m : M (List D)} {px py pt pos : Pos} {kt k2 pt2} (hc : X.calm = true) (hN : X.N.Nodup) (ha : SD X W T [a, b] m) (hw : swappedStores [.Tuple [.Name x px, .Name y py] kt pt] (.Tuple [a, b] k2 pt2) X.env = pure (some [x, y]))
    (hi : X.N[i]? = some x := by rfl) (hj : X.N[j]? = some y := by rfl) (hij : i ≠ j := by decide) (hx : X.env.scope.names.lookup x = some .local := by rfl) (hy : X.env.scope.names.lookup y = some .local := by rfl) (hTi : i ∈ T := by decide) (hTj : j ∈ T := by decide)
    (hs : swapsWithSole [.Tuple [.Name x px, .Name y py] kt pt] (.Tuple [a, b] k2 pt2) pos.line X.env = pure false := by rfl) : SS X W T (.Assign [.Tuple [.Name x px, .Name y py] kt pt] (.Tuple [a, b] k2 pt2) pos) (sPar2 i j m) := by
  obtain ⟨ta, pa, ea⟩ := ha.ex
  refine ⟨_, ps_par hc hN hi hj hij hx hy pa hw hs, fun z Dn s p => ?_⟩
  refine ea.bind s p fun ds y f1 s1 e1 vs hv p1 => ?_
  match ds, hv with
  | [d, e], .cons (v := v) hd (.cons (v := w) he .nil) =>
    refine ⟨v, w, rfl, ?_⟩
    obtain ⟨p2, f2, s2⟩ := setv_run s1 hd hTi p1
    obtain ⟨p3, f3, s3⟩ := setv_run s2 he hTj p2
    show Dn.nx ((z.s.set i (some v)).set j (some w)) y.H
    rw [← e1]
    exact p3 _ rfl (Fr.refl T _) s3
  | [], _ => exact p1.elim
  | [_], _ => exact p1.elim
  | _ :: _ :: _ :: _, _ => exact p1.elim
def sPar3 (i j l : Nat) (m : M (List D)) : M Fl := mB m fun ds => match ds with
  | [d, e, g] => mB (setv i d) fun _ => mB (setv j e) fun _ => mB (setv l g) fun _ => mP .nx
  | _ => fun _ => .bad
theorem ss_par3 (i j l : Nat) {x y z : Str} {a b c : Expr} {m : M (List D)} {px py pz pt pos : Pos} {kt k2 pt2} (hc : X.calm = true) (hN : X.N.Nodup) (ha : SD X W T [a, b, c] m) (hw : swappedStores [.Tuple [.Name x px, .Name y py, .Name z pz] kt pt] (.Tuple [a, b, c] k2 pt2) X.env = pure (some [x, y, z]))
    (hi : X.N[i]? = some x := by rfl) (hj : X.N[j]? = some y := by rfl) (hl : X.N[l]? = some z := by rfl) (hij : i ≠ j := by decide) (hil : i ≠ l := by decide) (hjl : j ≠ l := by decide) (hx : X.env.scope.names.lookup x = some .local := by rfl) (hy : X.env.scope.names.lookup y = some .local := by rfl) (hz : X.env.scope.names.lookup z = some .local := by rfl) (hTi : i ∈ T := by decide) (hTj : j ∈ T := by decide) (hTl : l ∈ T := by decide)
    (hs : swapsWithSole [.Tuple [.Name x px, .Name y py, .Name z pz] kt pt] (.Tuple [a, b, c] k2 pt2) pos.line X.env = pure false := by rfl) : SS X W T (.Assign [.Tuple [.Name x px, .Name y py, .Name z pz] kt pt] (.Tuple [a, b, c] k2 pt2) pos) (sPar3 i j l m) := by
  obtain ⟨ta, pa, ea⟩ := ha.ex
  refine ⟨_, ps_par3 hc hN hi hj hl hij hil hjl hx hy hz pa hw hs, fun z Dn s p => ?_⟩
  refine ea.bind s p fun ds y f1 s1 e1 vs hv p1 => ?_
  match ds, hv with
  | [d, e, g], .cons (v := v) hd (.cons (v := w) he (.cons (v := u) hg .nil)) =>
    refine ⟨v, w, u, rfl, ?_⟩
    obtain ⟨p2, f2, s2⟩ := setv_run s1 hd hTi p1
    obtain ⟨p3, f3, s3⟩ := setv_run s2 he hTj p2
    obtain ⟨p4, f4, s4⟩ := setv_run s3 hg hTl p3
    show Dn.nx (((z.s.set i (some v)).set j (some w)).set l (some u)) y.H
    rw [← e1]
    exact p4 _ rfl (Fr.refl T _) s4
  | [], _ => exact p1.elim
  | [_], _ => exact p1.elim
  | [_, _], _ => exact p1.elim
  | _ :: _ :: _ :: _ :: _, _ => exact p1.elim
/-! ### found.append(e) -/
def appC (d : D) (ds : List D) : Option (List D) := if decide (ds.length < most) then some (ds ++ [d]) else none
def sApp (j : Nat) (m : M D) : M Fl := mB (hasC j) fun _ => mB m fun d => mB (updc j (appC d)) fun _ => mP .nx
theorem ss_app (j : Nat) {x : Str} {e : Expr} {f : M D} {p1 apos cpos pos : Pos} (he : SE X W T e f) (hN : X.N[j]? = some x := by rfl) (hv : Vis X.env.scope x := by first | exact Or.inl rfl | exact Or.inr (Or.inl rfl) | exact Or.inr (Or.inr rfl)) (hT : j ∈ T := by decide)
    (hd : (x == ("__debug__" : Str)) = false := by decide) (hc : (x == ("__classdict__" : Str)) = false := by decide)
    (hbase : attributeBase (.Name x p1) "append" X.env (eval (.Name x p1) X.env) = eval (.Name x p1) X.env := by rfl)
    (hfew : ((backTo cpos (starEach [e] X.env)).all (fun x => !x.1) && (backToKw cpos (keywordEach [] X.env)).all (fun x => x.1.isSome) && decide ([e].length + ([] : List Keyword).length + (if ([] : List Keyword).isEmpty then 0 else 1) < 30)) = true := by rfl)
    (hline : (apos.endLine == cpos.line) = true := by rfl) (hst : starEach [e] X.env = (false, eval e X.env) :: starEach [] X.env := by rfl) (hpl : (backTo cpos (starEach [] X.env)).any (·.1) = false := by rfl)
    (hs : swapsWith (.Call (.Attribute (.Name x p1) "append" apos) [e] [] cpos) none pos.line X.env = pure false := by rfl) : SS X W T (.Expr (.Call (.Attribute (.Name x p1) "append" apos) [e] [] cpos) pos) (sApp j f) := by
  obtain ⟨te, pe, ev⟩ := he.ex
  refine ⟨_, ps_expr (pe_bm PySem.F.plainAttrs_list PySem.F.slot_list_append PySem.F.type_list_append mt_append (pe_var (i := j) hN hv hd hc) (pa_cons pe pa_nil hst) hbase hfew hline hst hpl) hs, fun x Dn s p => ?_⟩
  obtain ⟨⟨k, ds, q, us, e0, hs, hq⟩, p1⟩ := hasC_run s p
  refine ⟨_, hs, .inl ⟨rfl, _, SqL.of hq⟩, ?_⟩
  refine ev.bind s p1 fun d y f1 s1 e1 v hv p2 => ?_
  obtain ⟨k2, ds2, es, q2, us2, h1, h2, h3, h4, h5⟩ := updc_run s1 hT p2
  rw [e1, hs] at h1
  cases h1
  unfold appC at h4
  by_cases c : decide (ds2.length < most) = true
  · rw [if_pos c] at h4
    cases h4
    obtain ⟨a, b, g⟩ := h5 (us2 ++ [v]) (h3.app (.cons hv .nil))
    refine ⟨q, us2, v, rfl, rfl, h2, by rw [h3.length]; exact Nat.lt_of_lt_of_le (of_decide_eq_true c) most_line, ?_⟩
    have := g _ rfl (Fr.refl T _) a
    show Dn.nx x.s _
    rw [← e1]
    exact this
  · rw [if_neg c] at h4
    cases h4
end
end FL
namespace FL
open PySem PySem.Spec L2
section
variable {X : Cx} {W : WX} {T : List Nat} {K : PySem.W.Frag}
/-! ### what is walked -/
/-- J gives the items ds, one after the other, as long as what is frozen at y stands -/
def WalkD (K : PySem.W.Frag) (J : It) (ds : List D) (y : Cf) : Prop :=
  ∃ (G : Hp → Prop) (Y : Nat → Hp → V → Hp → Prop), Walk J ds.length G Y ∧ (∀ z : Cf, RSt K z → Same y.F z.F → G z.H) ∧
    ∀ (i : Nat) (z : Cf) (v : V) (H' : Hp), RSt K z → Same y.F z.F → Y i z.H v H' → ∃ (z' : Cf) (d : D), Ext z z' ∧ z'.H = H' ∧ ds[i]? = some d ∧ Rep K z'.F v d
def EvI (X : Cx) (W : WX) (T : List Nat) (wi : TI) (f : M (List D)) : Prop := ∀ (x : Cf) (R : It → Hp → Prop), RSt X.K x → Post X.K X.mg T W x (f x.r) (fun ds y => y.s = x.s → ∀ J, WalkD X.K J ds y → R J y.H) → wi x.s x.H R
structure SI (X : Cx) (W : WX) (T : List Nat) (tg iter : Expr) (f : M (List D)) : Prop where
  ex : ∃ wi, PI X tg iter wi ∧ EvI X W T wi f
def rowD : D → Option (List D)
  | .tup ds => some ds
  | .lst ds => some ds
  | .scr ds => some ds
  | _ => none
def iRow (m : M D) : M (List D) := mB m fun d => mO (rowD d)
theorem walkL {a : Addr} {vs : List V} {ds : List D} {y : Cf} (h : SqL K y.F a vs) (r : RepL K y.F vs ds) : WalkD K (Itl K a) ds y := by
  refine ⟨_, _, r.length ▸ walk_list (K := K) (a := a) (xs := vs), fun z s e => s.sub.seq (e.seq h), fun i z v H' s e q => ?_⟩
  obtain ⟨rfl, q⟩ := q
  obtain ⟨d, h1, h2⟩ := r.get' q
  exact ⟨z, d, Ext.refl s, rfl, h1, h2.mono e⟩
theorem walkT {a : Addr} {vs : List V} {ds : List D} {y : Cf} (h : SqT K y.F a vs) (r : RepL K y.F vs ds) : WalkD K (Itt K a) ds y := by
  refine ⟨_, _, r.length ▸ walk_tup (K := K) (a := a) (xs := vs), fun z s e => sameT s.sub (sameT e h), fun i z v H' s e q => ?_⟩
  obtain ⟨rfl, q⟩ := q
  obtain ⟨d, h1, h2⟩ := r.get' q
  exact ⟨z, d, Ext.refl s, rfl, h1, h2.mono e⟩
theorem row_cases {F : Hp} {v : V} {d : D} {ds : List D} (h : Rep K F v d) (q : rowD d = some ds) : ∃ a vs, v = .ref a ∧ RepL K F vs ds ∧ (SqL K F a vs ∨ SqT K F a vs) := by
  cases h <;> try (simp [rowD] at q; done)
  · rename_i h1 h2; cases q; exact ⟨_, _, rfl, h2, .inr h1⟩
  · rename_i h1 h2; cases q; exact ⟨_, _, rfl, h2, .inl (SqL.of h1)⟩
  · rename_i h1 h2; cases q; exact ⟨_, _, rfl, h2, .inl h1⟩
theorem si_row {tg e : Expr} {f : M D} (h : SE X W T e f) : SI X W T tg e (iRow f) := by
  obtain ⟨te, pe, ev⟩ := h.ex
  refine ⟨_, pi_seq pe, fun x R s p => ?_⟩
  refine ev.bind s p fun d y f1 s1 e1 v hv p1 => ?_
  cases q : rowD d with
  | none => rw [q] at p1; exact p1.elim
  | some ds =>
    rw [q] at p1
    have p2 := p1 y rfl (Fr.refl T y) s1 e1
    obtain ⟨a, vs, rfl, r, h | h⟩ := row_cases hv q
    · exact ⟨a, rfl, .inl ⟨⟨vs, s1.sub.seq h⟩, p2 _ (walkL h r)⟩⟩
    · exact ⟨a, rfl, .inr ⟨⟨vs, sameT s1.sub h⟩, p2 _ (walkT h r)⟩⟩
def rgD (lo : Int) (n : Nat) : List D := (List.range n).map fun (i : Nat) => D.int (lo + (i : Int))
theorem rgD_len (lo : Int) (n : Nat) : (rgD lo n).length = n := by unfold rgD; rw [List.length_map, List.length_range]
theorem walkR {lo : Int} {n : Nat} {y : Cf} : WalkD K (Itr lo n) (rgD lo n) y := by
  have w : Walk (Itr lo n) (rgD lo n).length (fun _ => True) (fun i H v H' => H' = H ∧ v = V.int (lo + (i : Int)) ∧ i < n) := by
    rw [rgD_len]
    exact (walk_range (lo := lo) (n := n)).mono (fun _ _ => trivial) fun i H v H' hi _ q => ⟨q.1, q.2, hi⟩
  refine ⟨_, _, w, fun _ _ _ => trivial, fun i z v H' s e q => ?_⟩
  obtain ⟨rfl, rfl, q⟩ := q
  exact ⟨z, .int (lo + (i : Int)), Ext.refl s, rfl, by unfold rgD; rw [List.getElem?_map, List.getElem?_range q]; rfl, .int _⟩
def rgOk (i : Int) : Bool := decide (-1000000 ≤ i ∧ i ≤ 1000000)
theorem rgOk_62 {i : Int} (h : rgOk i = true) : -(2 ^ 62) ≤ i ∧ i < 2 ^ 62 := by
  obtain ⟨h1, h2⟩ := of_decide_eq_true h
  omega
def range1 : List D → Option (List D)
  | [.int j] => if rgOk j then some (rgD 0 j.toNat) else none
  | _ => none
def range2 : List D → Option (List D)
  | [.int i, .int j] => if rgOk i && rgOk j then some (rgD i (j - i).toNat) else none
  | _ => none
def iOf (o : List D → Option (List D)) (m : M (List D)) : M (List D) := mB m fun ds => mO (o ds)
theorem si_range1 {tg a : Expr} {f : M (List D)} {p pos : Pos} (hm : X.mg "range" = none) (ha : SD X W T [a] f) (hg : Gl X "range" := by rfl) (hs : starEach [a] X.env = [(false, eval a X.env)] := by rfl) : SI X W T tg (.Call (.Name "range" p) [a] [] pos) (iOf range1 f) := by
  obtain ⟨ta, pa, ea⟩ := ha.ex
  refine ⟨_, pi_range1 hg hm pa hs, fun x R s p => ?_⟩
  refine ea.bind s p fun ds y f1 s1 e1 vs hv p1 => ?_
  cases q : range1 ds with
  | none => rw [q] at p1; exact p1.elim
  | some es =>
    rw [q] at p1
    have p2 := p1 y rfl (Fr.refl T y) s1 e1
    match ds, hv with
    | [d], .cons hd .nil =>
      cases d <;> try (simp [range1] at q; done)
      rename_i j
      cases hd
      simp only [range1] at q
      split at q
      · rename_i c
        cases q
        exact ⟨j, rfl, (rgOk_62 c).1, (rgOk_62 c).2, p2 _ walkR⟩
      · cases q
    | [], _ => cases q
    | _ :: _ :: _, _ => simp [range1] at q
theorem si_range2 {tg a b : Expr} {f : M (List D)} {p pos : Pos} (hm : X.mg "range" = none) (ha : SD X W T [a, b] f) (hg : Gl X "range" := by rfl) (hs : starEach [a, b] X.env = [(false, eval a X.env), (false, eval b X.env)] := by rfl) (hs2 : starEach [b] X.env = [(false, eval b X.env)] := by rfl) :
    SI X W T tg (.Call (.Name "range" p) [a, b] [] pos) (iOf range2 f) := by
  obtain ⟨ta, pa, ea⟩ := ha.ex
  refine ⟨_, pi_range2 hg hm pa hs hs2, fun x R s p => ?_⟩
  refine ea.bind s p fun ds y f1 s1 e1 vs hv p1 => ?_
  cases q : range2 ds with
  | none => rw [q] at p1; exact p1.elim
  | some es =>
    rw [q] at p1
    have p2 := p1 y rfl (Fr.refl T y) s1 e1
    match ds, hv with
    | [d, e], .cons hd (.cons he .nil) =>
      cases d <;> try (cases e <;> simp [range2] at q <;> done)
      rename_i i
      cases e <;> try (simp [range2] at q; done)
      rename_i j
      cases hd
      cases he
      simp only [range2] at q
      split at q
      · rename_i c
        cases q
        obtain ⟨c1, c2⟩ := Bool.and_eq_true_iff.mp c
        exact ⟨i, j, rfl, ⟨(rgOk_62 c1).1, (rgOk_62 c1).2, (rgOk_62 c2).1, (rgOk_62 c2).2⟩, p2 _ walkR⟩
      · cases q
    | [], _ => cases q
    | [_], _ => simp [range2] at q
    | _ :: _ :: _ :: _, _ => simp [range2] at q
/-- the items with their places -/
def enumD (ds : List D) : List D := (List.range ds.length).map fun i => .tup [.int (i : Nat), ds.getD i .non]
theorem enumD_get {ds : List D} {i : Nat} {d : D} (h : ds[i]? = some d) : (enumD ds)[i]? = some (.tup [.int (i : Nat), d]) := by
  obtain ⟨hl, _⟩ := List.getElem?_eq_some_iff.mp h
  unfold enumD
  rw [List.getElem?_map, List.getElem?_range hl]
  show some (D.tup [.int (i : Nat), ds.getD i .non]) = _
  rw [List.getD_eq_getElem?_getD, h]
  rfl
theorem enumD_len (ds : List D) : (enumD ds).length = ds.length := by unfold enumD; rw [List.length_map, List.length_range]
theorem pair_step {z : Cf} {v : V} {H' : Hp} {fx fy : Option V} {d e : D} (s : RSt K z) (q : ∃ t x y, v = .ref t ∧ z.H t = none ∧ H' = upd z.H t (.tup [x, y]) ∧ fx = some x ∧ fy = some y)
    (hx : ∀ x, fx = some x → Rep K z.F x d) (hy : ∀ y, fy = some y → Rep K z.F y e) : ∃ z' : Cf, Ext z z' ∧ z'.H = H' ∧ Rep K z'.F v (.tup [d, e]) := by
  obtain ⟨t, x, y, rfl, h1, rfl, h2, h3⟩ := q
  obtain ⟨a, b⟩ := ext_tup s h1 (.cons (hx x h2) (.cons (hy y h3) .nil))
  exact ⟨_, a, rfl, b⟩
theorem walkE {a : Addr} {vs : List V} {ds : List D} {y : Cf} {J : It} {G : Hp → Prop} (w : Walk J vs.length G (YPair (fun i => some (.int (i : Nat))) (fun i => vs[i]?))) (r : RepL K y.F vs ds) (hG : ∀ z : Cf, RSt K z → Same y.F z.F → G z.H) : WalkD K J (enumD ds) y := by
  refine ⟨G, _, by rw [enumD_len, ← r.length]; exact w, hG, fun i z v H' s e q => ?_⟩
  have q' := q
  obtain ⟨_, _, _, _, _, _, _, h5⟩ := q'
  obtain ⟨d, h6, h7⟩ := r.get' h5
  obtain ⟨z', a1, a2, a3⟩ := pair_step (d := .int (i : Nat)) (e := d) s q (fun x hx => by cases hx; exact .int _) (fun y' hy => by
    have h8 : vs[i]? = some y' := hy
    have h9 : vs[i]? = some _ := h5
    rw [h9] at h8
    cases h8
    exact h7.mono e)
  exact ⟨z', _, a1, a2, enumD_get h6, a3⟩
def enum1 : List D → Option (List D)
  | [d] => (rowD d).map enumD
  | _ => none
theorem si_enum {e : Expr} {f : M (List D)} {p pos tpos : Pos} {elts : List Expr} {kk : Nat} (hm : X.mg "enumerate" = none) (ha : SD X W T [e] f) (hg : Gl X "enumerate" := by rfl) (hs : starEach [e] X.env = [(false, eval e X.env)] := by rfl) :
    SI X W T (.Tuple elts kk tpos) (.Call (.Name "enumerate" p) [e] [] pos) (iOf enum1 f) := by
  obtain ⟨ta, pa, ea⟩ := ha.ex
  refine ⟨_, pi_enumA hg hm pa hs, fun x R s p => ?_⟩
  refine ea.bind s p fun ds y f1 s1 e1 vs hv p1 => ?_
  cases q : enum1 ds with
  | none => rw [q] at p1; exact p1.elim
  | some es =>
    rw [q] at p1
    have p2 := p1 y rfl (Fr.refl T y) s1 e1
    match ds, hv with
    | [d], .cons hd .nil =>
      have q : (rowD d).map enumD = some es := q
      cases g : rowD d with
      | none => rw [g] at q; cases q
      | some gs =>
        rw [g] at q
        cases q
        obtain ⟨a, us, rfl, r, h | h⟩ := row_cases hd g
        · exact ⟨a, us, rfl, .inl ⟨s1.sub.seq h, p2 _ (walkE (a := a) walk_enum r fun z sz ez => sz.sub.seq (ez.seq h))⟩⟩
        · exact ⟨a, us, rfl, .inr ⟨sameT s1.sub h, p2 _ (walkE (a := a) walk_enT r fun z sz ez => sameT sz.sub (sameT ez h))⟩⟩
    | [], _ => cases q
    | _ :: _ :: _, _ => cases q
/-! ### for -/
def forD (g : D → M Unit) (b : M Fl) : List D → M Fl
  | [] => mP .nx
  | d :: ds => mB (g d) fun _ => mB b fun fl => match fl with
    | .nx => forD g b ds
    | .co => forD g b ds
    | .br => mP .nx
    | .rt d => mP (.rt d)
    | .rtL ds => mP (.rtL ds)
def sFor (it : M (List D)) (g : D → M Unit) (b : M Fl) : M Fl := mB it fun ds => forD g b ds
theorem drop_cons {α : Type} {l : List α} {i : Nat} {a : α} (h : l[i]? = some a) : l.drop i = a :: l.drop (i + 1) := by
  obtain ⟨hl, e⟩ := List.getElem?_eq_some_iff.mp h
  rw [List.drop_eq_getElem_cons hl, e]
theorem ss_for {tg iter : Expr} {body : List Stmt} {fi : M (List D)} {g : D → M Unit} {b : M Fl} {pos : Pos} (hc : X.calm = true) (hp : PassesOwn (model X.prog X.w) X.A X.env X.xe) (hi : SI X W T tg iter fi) (hg : SG X W T tg g) (hb : SSs X W T body b)
    (hs : ∀ x, foldedSetIterable iter X.env x = pure x := by intro _; rfl) : SS X W T (.For tg iter body [] pos) (sFor fi g b) := by
  obtain ⟨wi, pi, ei⟩ := hi.ex
  obtain ⟨u, pu, eu⟩ := hg.ex
  obtain ⟨t, pt, et⟩ := hb.ex
  refine ⟨_, ps_for hp hc pi pu pt hs, fun x Dn s p => ?_⟩
  refine ei x _ s ?_
  unfold sFor mB at p
  cases e0 : fi x.r with
  | exc c pl ρ => simp only [e0] at p; exact p
  | bad => simp only [e0] at p; exact p
  | ok ds ρ =>
    simp only [e0] at p
    intro y hy f1 s1 e1 J wk
    rw [← hy] at p
    obtain ⟨G, Y, w, hG, hY⟩ := wk
    have p1 : Post X.K X.mg T W y (forD g b ds y.r) (SQ X.K y Dn) := (p.shift f1).mono fun a z _ _ q => SQ.shift f1 q
    rw [← e1]
    refine for_it w (fun i σ H => ∃ z : Cf, z.s = σ ∧ z.H = H ∧ Fr T y z ∧ RSt X.K z ∧ Post X.K X.mg T W z (forD g b (ds.drop i) z.r) (SQ X.K z Dn)) ⟨y, rfl, rfl, Fr.refl T y, s1, by rw [List.drop_zero]; exact p1⟩ ?_ ?_ ?_
    · rintro i σ H hi ⟨z, rfl, rfl, fz, sz, pz⟩
      exact hG z sz fz.ff
    · rintro i v σ H H' hi ⟨z, rfl, rfl, fz, sz, pz⟩ hy2
      obtain ⟨z', d, ex, rfl, hd, hv⟩ := hY i z v H' sz fz.ff hy2
      have s3 := ex.rst sz
      rw [drop_cons hd, ← ex.r] at pz
      have p3 : Post X.K X.mg T W z' (forD g b (d :: ds.drop (i + 1)) z'.r) (SQ X.K z' Dn) := (pz.shift (ex.fr T)).mono fun a q _ _ h => SQ.shift (ex.fr T) h
      have f3 : Fr T y z' := fz.trans (ex.fr T)
      rw [← ex.s]
      refine eu z' v d _ s3 hv ?_
      unfold forD mB at p3
      cases e2 : g d z'.r with
      | exc c pl ρ => simp only [e2] at p3; exact p3
      | bad => simp only [e2] at p3; exact p3
      | ok _ ρ2 =>
        simp only [e2] at p3
        intro q hq fq sq
        rw [← hq] at p3
        have p4 := (p3.shift fq).mono (Q' := SQ X.K q Dn) fun a q2 _ _ h => SQ.shift fq h
        refine et q _ sq ?_
        cases e3 : b q.r with
        | exc c pl ρ => simp only [e3] at p4; exact p4
        | bad => simp only [e3] at p4; exact p4
        | ok fl ρ3 =>
          simp only [e3] at p4
          intro o ho fo so
          rw [← ho] at p4
          have f5 : Fr T y o := (f3.trans fq).trans fo
          cases fl with
          | nx => exact ⟨o, rfl, rfl, f5, so, (p4.shift fo).mono fun a q2 _ _ h => SQ.shift fo h⟩
          | co => exact ⟨o, rfl, rfl, f5, so, (p4.shift fo).mono fun a q2 _ _ h => SQ.shift fo h⟩
          | br => exact p4 o rfl fo so
          | rt d => exact p4 o rfl fo so
          | rtL ds => exact p4 o rfl fo so
    · rintro σ H ⟨z, rfl, rfl, fz, sz, pz⟩
      rw [List.drop_length] at pz
      exact pz z rfl (Fr.refl T z) sz
/-! ### while -/
def whileD (c : M Bool) (b : M Fl) : Nat → M Fl
  | 0 => fun _ => .bad
  | n + 1 => mB c fun k => if k then mB b fun fl => match fl with
    | .nx => whileD c b n
    | .co => whileD c b n
    | .br => mP .nx
    | .rt d => mP (.rt d)
    | .rtL ds => mP (.rtL ds)
    else mP .nx
theorem ss_while (n : Nat) {c : Expr} {body : List Stmt} {fc : M Bool} {b : M Fl} {pos : Pos} (hp : PassesOwn (model X.prog X.w) X.A X.env X.xe) (hc : ST X W T c fc) (hb : SSs X W T body b) : SS X W T (.While c body [] pos) (whileD fc b n) := by
  obtain ⟨tc, pc, ec⟩ := hc.ex
  obtain ⟨t, pt, et⟩ := hb.ex
  refine ⟨_, ps_while hp pc pt, fun x Dn s p => ?_⟩
  refine ⟨fun m σ H => ∃ z : Cf, z.s = σ ∧ z.H = H ∧ RSt X.K z ∧ Post X.K X.mg T W z (whileD fc b m z.r) (SQ X.K z Dn), ⟨n, x, rfl, rfl, s, p⟩, ?_⟩
  rintro m σ H ⟨z, rfl, rfl, sz, pz⟩
  cases m with
  | zero => exact pz.elim
  | succ m =>
    unfold whileD at pz
    refine ec.bind sz pz fun k y f1 s1 e1 p1 => ?_
    have p2 := p1.mono (Q' := SQ X.K y Dn) fun a q2 _ _ h => SQ.shift f1 h
    cases k with
    | false =>
      show Dn.nx z.s y.H
      rw [← e1]
      exact p2 y rfl (Fr.refl T y) s1
    | true =>
      simp only [if_true] at p2 ⊢
      refine ⟨fun σ' H' => ∃ z : Cf, z.s = σ' ∧ z.H = H' ∧ RSt X.K z ∧ Post X.K X.mg T W z (whileD fc b m z.r) (SQ X.K z Dn), fun σ' H' h => ⟨m, Nat.lt_succ_self m, h⟩, ?_⟩
      rw [← e1]
      refine et y _ s1 ?_
      unfold mB at p2
      cases e3 : b y.r with
      | exc c pl ρ => simp only [e3] at p2; exact p2
      | bad => simp only [e3] at p2; exact p2
      | ok fl ρ3 =>
        simp only [e3] at p2
        intro o ho fo so
        rw [← ho] at p2
        cases fl with
        | nx => exact ⟨o, rfl, rfl, so, (p2.shift fo).mono fun a q2 _ _ h => SQ.shift fo h⟩
        | co => exact ⟨o, rfl, rfl, so, (p2.shift fo).mono fun a q2 _ _ h => SQ.shift fo h⟩
        | br => exact p2 o rfl fo so
        | rt d => exact p2 o rfl fo so
        | rtL ds => exact p2 o rfl fo so
end
end FL
namespace FL
open PySem PySem.Spec L2
section
variable {K : PySem.W.Frag}
/-! ### slots wiped and put back -/
def wipeE (r : List Ent) : List Nat → List Ent
  | [] => r
  | v :: vs => (wipeE r vs).set v .no
theorem wipeE_length (r : List Ent) : ∀ vs : List Nat, (wipeE r vs).length = r.length
  | [] => rfl
  | v :: vs => by unfold wipeE; rw [List.length_set, wipeE_length r vs]
theorem wipeE_ne {r : List Ent} {i : Nat} : ∀ {vs : List Nat}, i ∉ vs → (wipeE r vs)[i]? = r[i]?
  | [], _ => rfl
  | v :: vs, h => by
    unfold wipeE
    have h1 : v ≠ i := fun e => h (by rw [e]; exact List.mem_cons_self)
    rw [List.getElem?_set_ne h1]
    exact wipeE_ne fun e => h (List.mem_cons_of_mem _ e)
theorem wipe_ne {σ : L2.St} {i : Nat} : ∀ {vs : List Nat}, i ∉ vs → (wipe σ vs)[i]? = σ[i]?
  | [], _ => rfl
  | v :: vs, h => by
    unfold wipe
    have h1 : v ≠ i := fun e => h (by rw [e]; exact List.mem_cons_self)
    rw [List.getElem?_set_ne h1]
    exact wipe_ne fun e => h (List.mem_cons_of_mem _ e)
theorem wipeE_in {r : List Ent} {i : Nat} {e : Ent} : ∀ {vs : List Nat}, i ∈ vs → (wipeE r vs)[i]? = some e → e = .no
  | v :: vs, h, q => by
    unfold wipeE at q
    rcases get_set q with ⟨_, e1, _⟩ | ⟨e1, g⟩
    · exact e1.symm
    · rcases List.mem_cons.mp h with z | z
      · exact (e1 z.symm).elim
      · exact wipeE_in z g
theorem wipe_in {σ : L2.St} {i : Nat} {v : Option V} : ∀ {vs : List Nat}, i ∈ vs → (wipe σ vs)[i]? = some v → v = none
  | u :: vs, h, q => by
    unfold wipe at q
    rcases get_set q with ⟨_, e1, _⟩ | ⟨e1, g⟩
    · exact e1.symm
    · rcases List.mem_cons.mp h with z | z
      · exact (e1 z.symm).elim
      · exact wipe_in z g
theorem wipe_eq {σ σ' : L2.St} {vs : List Nat} (hl : σ'.length = σ.length) (h : ∀ i, i ∉ vs → σ'[i]? = σ[i]?) : wipe σ' vs = wipe σ vs := by
  apply List.ext_getElem?
  intro i
  by_cases hi : i ∈ vs
  · have l1 : (wipe σ' vs).length = (wipe σ vs).length := by rw [wipe_length, wipe_length, hl]
    by_cases c : i < (wipe σ' vs).length
    · have c2 : i < (wipe σ vs).length := by rw [← l1]; exact c
      have e1 := List.getElem?_eq_getElem c
      have e2 := List.getElem?_eq_getElem c2
      rw [e1, e2, wipe_in hi e1, wipe_in hi e2]
    · rw [List.getElem?_eq_none (by omega), List.getElem?_eq_none (by omega)]
  · rw [wipe_ne hi, wipe_ne hi]; exact h i hi
theorem wipe_wipe (σ : L2.St) (vs : List Nat) : wipe (wipe σ vs) vs = wipe σ vs := wipe_eq (wipe_length σ vs) fun i hi => wipe_ne hi
/-- x without the slots vs -/
def wiped (x : Cf) (vs : List Nat) : Cf := ⟨x.F, x.H, wipe x.s vs, wipeE x.r vs⟩
theorem wiped_cel {x : Cf} {vs : List Nat} {i : Nat} {k : CK} {p : Addr} (h : CelAt (wiped x vs) i k p) : i ∉ vs ∧ CelAt x i k p := by
  obtain ⟨⟨ds, h1⟩, h2⟩ := h
  have h1' : (wipeE x.r vs)[i]? = some (.cel k ds) := h1
  have h2' : (wipe x.s vs)[i]? = some (some (.ref p)) := h2
  by_cases hi : i ∈ vs
  · cases wipeE_in hi h1'
  · rw [wipeE_ne hi] at h1'
    rw [wipe_ne hi] at h2'
    exact ⟨hi, ⟨ds, h1'⟩, h2'⟩
theorem wiped_ok {x : Cf} {T vs : List Nat} (s : RSt K x) (hT : ∀ i ∈ vs, i ∈ T) : Fr T x (wiped x vs) ∧ RSt K (wiped x vs) := by
  constructor
  · refine ⟨wipeE_length _ _, Same.refl _, fun _ h => h, fun a o e => .inl ⟨o, e⟩, fun a o e _ => e, fun i k p c => .inr (wiped_cel c).2, fun i hi => ?_⟩
    have hv : i ∉ vs := fun z => hi (hT i z)
    exact ⟨wipeE_ne hv, wipe_ne hv⟩
  · refine ⟨s.sub, by show (wipe x.s vs).length = (wipeE x.r vs).length; rw [wipe_length, wipeE_length]; exact s.len, fun i d h => ?_, fun i k es h => ?_, fun i j k l p c c' => s.dis i j k l p (wiped_cel c).2 (wiped_cel c').2⟩
    · have h' : (wipeE x.r vs)[i]? = some (.val d) := h
      by_cases hi : i ∈ vs
      · cases wipeE_in hi h'
      · rw [wipeE_ne hi] at h'
        obtain ⟨v, h1, h2⟩ := s.val i d h'
        exact ⟨v, by show (wipe x.s vs)[i]? = _; rw [wipe_ne hi]; exact h1, h2⟩
    · have h' : (wipeE x.r vs)[i]? = some (.cel k es) := h
      by_cases hi : i ∈ vs
      · cases wipeE_in hi h'
      · rw [wipeE_ne hi] at h'
        obtain ⟨p, h1, h2⟩ := s.cel i k es h'
        exact ⟨p, by show (wipe x.s vs)[i]? = _; rw [wipe_ne hi]; exact h1, h2⟩
def noCel (vs : List Nat) (r : List Ent) : Bool := vs.all fun i => match r[i]? with
  | some (.cel _ _) => false
  | _ => true
/-- the slots vs as they were in r0 -/
def putBack (r0 r : List Ent) : List Nat → List Ent
  | [] => r
  | v :: vs => match r0[v]? with
    | some e => (putBack r0 r vs).set v e
    | none => putBack r0 r vs
theorem putBack_length (r0 r : List Ent) : ∀ vs, (putBack r0 r vs).length = r.length
  | [] => rfl
  | v :: vs => by
    unfold putBack
    split
    · rw [List.length_set, putBack_length r0 r vs]
    · exact putBack_length r0 r vs
theorem putBack_ne {r0 r : List Ent} {i : Nat} : ∀ {vs : List Nat}, i ∉ vs → (putBack r0 r vs)[i]? = r[i]?
  | [], _ => rfl
  | v :: vs, h => by
    have h1 : v ≠ i := fun e => h (by rw [e]; exact List.mem_cons_self)
    have h2 := putBack_ne (r0 := r0) (r := r) fun e => h (List.mem_cons_of_mem v e)
    unfold putBack
    split
    · rw [List.getElem?_set_ne h1]; exact h2
    · exact h2
theorem putBack_in {r0 r : List Ent} {i : Nat} (hl : r.length = r0.length) : ∀ {vs : List Nat}, i ∈ vs → (putBack r0 r vs)[i]? = r0[i]?
  | v :: vs, h => by
    unfold putBack
    by_cases e : v = i
    · subst e
      split
      · rename_i en q
        rw [q]
        have : v < (putBack r0 r vs).length := by
          rw [putBack_length, hl]
          exact (List.getElem?_eq_some_iff.mp q).1
        exact List.getElem?_set_self this
      · rename_i q
        rw [q]
        refine List.getElem?_eq_none ?_
        rw [putBack_length, hl]
        exact List.getElem?_eq_none_iff.mp q
    · have hi : i ∈ vs := by
        rcases List.mem_cons.mp h with z | z
        · exact (e z.symm).elim
        · exact z
      have ih := putBack_in (r0 := r0) (r := r) hl hi
      split
      · rw [List.getElem?_set_ne e]; exact ih
      · exact ih
/-- an exception is not let out -/
def noX {α : Type} (m : M α) : M α := fun r => match m r with
  | .exc _ _ _ => .bad
  | o => o
theorem noX_post {α : Type} {mg : Str → Option Value} {T : List Nat} {W W' : WX} {x : Cf} {m : M α} {r : List Ent} {Q : α → Cf → Prop} (p : Post K mg T W x (noX m r) Q) : Post K mg T W' x (m r) Q := by
  unfold noX at p
  cases e : m r with
  | ok a ρ => simp only [e] at p; exact p
  | exc c pl ρ => simp only [e] at p; exact p.elim
  | bad => simp only [e] at p; exact p.elim
def compD (vs : List Nat) (g : D → M Unit) (t : M Bool) (e : M D) : List D → List D → M (List D)
  | [], acc => mP acc
  | d :: ds, acc => mB (noX (g d)) fun _ => mB (noX t) fun k => if k then mB (noX e) fun y r => if decide (acc.length < most) then compD vs g t e ds (acc ++ [y]) (wipeE r vs) else .bad
    else fun r => compD vs g t e ds acc (wipeE r vs)
/-- [e for g in it if t], vs the slots of the names of its own -/
def lComp (vs : List Nat) (it : M (List D)) (g : D → M Unit) (t : M Bool) (e : M D) : M (List D) := mB it fun ds r => if noCel vs r then (match compD vs g t e ds [] (wipeE r vs) with
  | .ok acc r2 => .ok acc (putBack r r2 vs)
  | _ => .bad) else .bad
end
section
variable {X : Cx} {W : WX} {T : List Nat} {K : PySem.W.Frag}
abbrev W0 : WX := fun _ _ _ _ => False
theorem noX_exc {α : Type} {m : M α} {r r' : List Ent} {c : Str} {pl : Option (Str × D)} : noX m r ≠ .exc c pl r' := by
  unfold noX
  intro h
  cases e : m r with
  | ok a ρ => simp only [e] at h; cases h
  | exc c pl ρ => simp only [e] at h; cases h
  | bad => simp only [e] at h; cases h
/-- a list of nobody's stands -/
theorem stays {x y : Cf} {q : Addr} {us : List V} (f : Fr T x y) (h1 : x.H q = some (.lst us)) (h2 : x.F q = none) (h3 : ∀ i k, ¬ CelAt x i k q) : y.H q = some (.lst us) ∧ y.F q = none ∧ ∀ i k, ¬ CelAt y i k q := by
  refine ⟨f.hp q _ h1 fun i _ k c => h3 i k c, ?_, fun i k c => ?_⟩
  · cases e : y.F q with
    | none => rfl
    | some o =>
      rcases f.nw q o e with ⟨u, g⟩ | g | ⟨i, g⟩
      · rw [h2] at g; cases g
      · rw [h1] at g; cases g
      · exact (h3 i _ g).elim
  · rcases f.cc i k q c with ⟨_, g⟩ | g
    · rw [h1] at g; cases g
    · exact h3 i k g
theorem bump {b a : Cf} {q : Addr} {o : HO} (f : Fr T b a) (s : RSt K a) (hb : b.H q = none) (h2 : a.F q = none) (h3 : ∀ i k, ¬ CelAt a i k q) : Fr T b ⟨a.F, upd a.H q o, a.s, a.r⟩ ∧ RSt K ⟨a.F, upd a.H q o, a.s, a.r⟩ := by
  constructor
  · refine ⟨f.ln, f.ff, fun p h => ?_, f.nw, fun p u h n => ?_, f.cc, f.un⟩
    · by_cases z : p = q
      · rw [z]; exact hb
      · exact f.dm p (by rw [← h]; exact (upd_ne z).symm)
    · have z : p ≠ q := by rintro rfl; rw [hb] at h; cases h
      show upd a.H q o p = some u
      rw [upd_ne z]; exact f.hp p u h n
  · refine ⟨fun p u h => ?_, s.len, s.val, fun i k es h => ?_, s.dis⟩
    · have z : p ≠ q := by rintro rfl; rw [h2] at h; cases h
      show upd a.H q o p = some u
      rw [upd_ne z]; exact s.sub p u h
    · obtain ⟨p, g1, us, g2, g3, g4⟩ := s.cel i k es h
      have z : p ≠ q := by rintro rfl; exact h3 i k ⟨⟨es, h⟩, g1⟩
      exact ⟨p, g1, us, g2, by show upd a.H q o p = _; rw [upd_ne z]; exact g3, g4⟩
theorem ev_comp {wi : TI} {g : TG} {tt : TT} {te : TE} {vs : List Nat} {fi : M (List D)} {fg : D → M Unit} {ft : M Bool} {fe : M D} (hT : ∀ i ∈ vs, i ∈ T)
    (ei : EvI X W T wi fi) (eg : EvG X W0 vs g fg) (et : EvT X W0 T tt ft) (ee : EvE X W0 T te fe) : EvL X W T (tLc wi g tt te vs) (lComp vs fi fg ft fe) := by
  intro x Q s p
  refine ei x _ s ?_
  unfold lComp mB at p
  cases e0 : fi x.r with
  | exc c pl ρ => simp only [e0] at p; exact p
  | bad => simp only [e0] at p; exact p
  | ok ds ρ =>
    simp only [e0] at p
    intro y hy f1 s1 e1 J wk
    rw [← hy] at p
    by_cases hno : noCel vs y.r = true
    case neg => rw [if_neg hno] at p; exact p.elim
    rw [if_pos hno] at p
    have p0 := p.shift f1
    clear p
    obtain ⟨G, Y, w, hG, hY⟩ := wk
    intro q hq
    obtain ⟨fw, sw⟩ := wiped_ok (T := T) s1 hT
    have hbq : (wiped y vs).H q = none := hq
    have nq : ∀ i k, ¬ CelAt (wiped y vs) i k q := fun i k c => not_cel s1 hq i k (wiped_cel c).2
    -- the end
    have key : ∀ (acc : List D) (r2 : List Ent) (z : Cf), compD vs fg ft fe ds [] (wipeE y.r vs) = .ok acc r2 → z.r = r2 → z.s = wipe y.s vs → Fr T (wiped y vs) z → RSt X.K z → (∀ i k, ¬ CelAt z i k q) →
        ∀ us, z.H q = some (.lst us) → z.F q = none → RepL X.K z.F us acc → Q (.ref q) z.H := by
      intro acc r2 z hc hz2 hz1 fz sz h4 us h1 h2 h3
      have p0 := p0
      rw [hc] at p0
      have f2 := fw.trans fz
      have lr : z.r.length = y.r.length := f2.ln
      have noc : ∀ i ∈ vs, ∀ k ds, y.r[i]? ≠ some (.cel k ds) := fun i hi k ds z => by
        have := List.all_eq_true.mp hno i hi
        rw [z] at this; cases this
      have celz : ∀ i k a, CelAt ⟨z.F, z.H, y.s, putBack y.r z.r vs⟩ i k a → CelAt z i k a := fun i k a ⟨⟨gs, g1⟩, g2⟩ => by
        have g1' : (putBack y.r z.r vs)[i]? = some (.cel k gs) := g1
        by_cases hi : i ∈ vs
        · rw [putBack_in lr hi] at g1'
          exact (noc i hi k gs g1').elim
        · rw [putBack_ne hi] at g1'
          refine ⟨⟨gs, g1'⟩, ?_⟩
          rw [hz1, wipe_ne hi]; exact g2
      refine p0 ⟨z.F, z.H, y.s, putBack y.r z.r vs⟩ (by rw [hz2]) ?_ ?_ e1 q us ⟨h1, h2, h3⟩ (f1.dm q hq) (fun i k c => h4 i k (celz i k q c))
      · refine ⟨(putBack_length _ _ _).trans lr, f2.ff, f2.dm, f2.nw, f2.hp, fun i k a c => f2.cc i k a (celz i k a c), fun i hi => ?_⟩
        have hv : i ∉ vs := fun z => hi (hT i z)
        refine ⟨?_, rfl⟩
        show (putBack y.r z.r vs)[i]? = y.r[i]?
        rw [putBack_ne hv]
        exact (f2.un i hi).1
      · refine ⟨sz.sub, by show y.s.length = (putBack y.r z.r vs).length; rw [putBack_length, lr]; exact s1.len, fun i d h => ?_, fun i k es h => ?_, fun i j k l a c c' => sz.dis i j k l a (celz _ _ _ c) (celz _ _ _ c')⟩
        · have h' : (putBack y.r z.r vs)[i]? = some (.val d) := h
          by_cases hi : i ∈ vs
          · rw [putBack_in lr hi] at h'
            obtain ⟨v, g1, g2⟩ := s1.val i d h'
            exact ⟨v, g1, g2.mono f2.ff⟩
          · rw [putBack_ne hi] at h'
            obtain ⟨v, g1, g2⟩ := sz.val i d h'
            rw [hz1, wipe_ne hi] at g1
            exact ⟨v, g1, g2⟩
        · have h' : (putBack y.r z.r vs)[i]? = some (.cel k es) := h
          by_cases hi : i ∈ vs
          · rw [putBack_in lr hi] at h'
            exact (noc i hi k es h').elim
          · rw [putBack_ne hi] at h'
            obtain ⟨a, g1, g2⟩ := sz.cel i k es h'
            rw [hz1, wipe_ne hi] at g1
            exact ⟨a, g1, g2⟩
    rw [← e1]
    obtain ⟨RR, hRR⟩ : ∃ RR, compD vs fg ft fe ds [] (wipeE y.r vs) = RR := ⟨_, rfl⟩
    rw [hRR] at p0
    simp only [hRR] at key
    let Pv : Nat → Hp → Prop := fun i H => ∃ (z : Cf) (acc : List D) (us : List V), z.s = wipe y.s vs ∧ z.H = H ∧ Fr T (wiped y vs) z ∧ RSt X.K z ∧ z.H q = some (.lst us) ∧ z.F q = none ∧ RepL X.K z.F us acc ∧
      (∀ i k, ¬ CelAt z i k q) ∧ compD vs fg ft fe (ds.drop i) acc z.r = RR
    have good : RR ≠ .bad := by intro z; rw [z] at p0; exact p0
    obtain ⟨b1, b2⟩ := bump (o := .lst []) (Fr.refl T (wiped y vs)) sw hbq (s1.sub.free hq) nq
    refine lc_it w (Qd := fun H => Q (.ref q) H) Pv ⟨_, [], [], rfl, rfl, b1, b2, upd_same, s1.sub.free hq, .nil, nq, by rw [List.drop_zero]; exact hRR⟩ ?_ ?_ ?_
    · rintro i H hi ⟨z, acc, us, _, rfl, fz, sz, _⟩
      exact hG z sz (fw.ff.trans fz.ff)
    · rintro i v H H' hi ⟨z, acc, us, zs, rfl, fz, sz, h1, h2, h3, h4, h5⟩ hy2
      obtain ⟨z', d, ex, rfl, hd, hv⟩ := hY i z v H' sz (fw.ff.trans fz.ff) hy2
      have s3 := ex.rst sz
      rw [drop_cons hd, ← ex.r] at h5
      have zs' : z'.s = wipe y.s vs := ex.s.trans zs
      have fz' : Fr T (wiped y vs) z' := fz.trans (ex.fr T)
      obtain ⟨i1, i2, i3⟩ := stays (ex.fr T) h1 h2 h4
      have h3' := h3.mono ex.ff
      rw [← zs']
      have c5 : compD vs fg ft fe (d :: ds.drop (i + 1)) acc z'.r ≠ .bad := by rw [h5]; exact good
      unfold compD mB at h5 c5
      refine eg z' v d _ s3 hv (noX_post (W := W0) ?_)
      cases eg1 : noX (fg d) z'.r with
      | bad => simp only [eg1] at c5; exact (c5 rfl).elim
      | exc c pl r => exact (noX_exc eg1).elim
      | ok _ ρ2 =>
        simp only [eg1] at h5 c5
        intro z2 hz2 f2 s2
        rw [← hz2] at h5 c5
        have f2T : Fr T z' z2 := f2.mono hT
        obtain ⟨j1, j2, j3⟩ := stays f2T i1 i2 i3
        have hw2 : wipe z2.s vs = wipe y.s vs := by
          have l2 : z2.s.length = z'.s.length := by rw [s2.len, s3.len]; exact f2.ln
          rw [wipe_eq l2 fun i hi => (f2.un i hi).2, zs', wipe_wipe]
        refine ⟨hw2.trans zs'.symm, ?_⟩
        refine et z2 _ s2 (noX_post (W := W0) ?_)
        cases et1 : noX ft z2.r with
        | bad => simp only [et1] at c5; exact (c5 rfl).elim
        | exc c pl r => exact (noX_exc et1).elim
        | ok b ρ3 =>
          simp only [et1] at h5 c5
          intro z3 hz3 f3 s3' e3
          rw [← hz3] at h5 c5
          obtain ⟨k1, k2, k3⟩ := stays f3 j1 j2 j3
          have fz3 : Fr T (wiped y vs) z3 := (fz'.trans f2T).trans f3
          cases b with
          | false =>
            simp only [Bool.false_eq_true, if_false] at h5 c5 ⊢
            obtain ⟨g1, g2⟩ := wiped_ok (T := T) s3' hT
            refine ⟨wiped z3 vs, acc, us, by show wipe z3.s vs = _; rw [e3, hw2], rfl, fz3.trans g1, g2, k1, k2, h3'.mono (f2.ff.trans f3.ff), fun i k c => k3 i k (wiped_cel c).2, ?_⟩
            exact h5
          | true =>
            simp only [if_true] at h5 c5 ⊢
            rw [← e3]
            refine ee z3 _ s3' (noX_post (W := W0) ?_)
            cases ee1 : noX fe z3.r with
            | bad => simp only [ee1] at c5; exact (c5 rfl).elim
            | exc c pl r => exact (noX_exc ee1).elim
            | ok d4 ρ4 =>
              simp only [ee1] at h5 c5
              intro z4 hz4 f4 s4 e4 v4 hv4
              rw [← hz4] at h5 c5
              obtain ⟨l1, l2, l3⟩ := stays f4 k1 k2 k3
              have fz4 := fz3.trans f4
              by_cases c : decide (acc.length < most) = true
              · rw [if_pos c] at h5 c5
                have hl : us.length < sizeLine := by rw [h3.length]; exact Nat.lt_of_lt_of_le (of_decide_eq_true c) most_line
                obtain ⟨g1, g2⟩ := wiped_ok (T := T) s4 hT
                obtain ⟨m1, m2⟩ := bump (o := .lst (us ++ [v4])) (fz4.trans g1) g2 hbq l2 fun i k c => l3 i k (wiped_cel c).2
                refine ⟨us, l1, hl, ⟨_, acc ++ [d4], us ++ [v4], ?_, rfl, m1, m2, upd_same, l2, ?_, fun i k c => l3 i k (wiped_cel (x := z4) ⟨c.1, c.2⟩).2, h5⟩⟩
                · show wipe z4.s vs = _
                  rw [e4, e3, hw2]
                · exact (h3'.mono (f2.ff.trans (f3.ff.trans f4.ff))).app (.cons hv4 .nil)
              · rw [if_neg c] at c5
                exact (c5 rfl).elim
    · rintro H ⟨z, acc, us, zs, rfl, fz, sz, h1, h2, h3, h4, h5⟩
      rw [List.drop_length] at h5
      exact key acc z.r z h5.symm rfl zs fz sz h4 us h1 h2 h3
end
end FL
namespace FL
open PySem PySem.Spec L2
section
variable {X : Cx} {W : WX} {T : List Nat} {K : PySem.W.Frag}
/-! ### comprehensions -/
structure STs (X : Cx) (W : WX) (T : List Nat) (es : List Expr) (f : M Bool) : Prop where
  ex : ∃ t, PTs X es t ∧ EvT X W T t f
theorem sts_nil : STs X W T [] (mP true) := ⟨_, pts_nil, fun x Q s p => p x rfl (Fr.refl T x) s rfl⟩
theorem sts_one {e : Expr} {f : M Bool} (h : ST X W T e f) : STs X W T [e] f := by
  obtain ⟨t, p, e⟩ := h.ex
  exact ⟨_, pts_one p, e⟩
/-! a reading that hangs on the plain function alone -/
def canE (K : PySem.W.Frag) (mg : Str → Option Value) (W : WX) (T : List Nat) (f : M D) : TE := fun σ H Q => ∃ x : Cf, x.s = σ ∧ x.H = H ∧ RSt K x ∧ Post K mg T W x (f x.r) (fun d y => y.s = x.s → ∀ v, Rep K y.F v d → Q v y.H)
def canT (K : PySem.W.Frag) (mg : Str → Option Value) (W : WX) (T : List Nat) (f : M Bool) : TT := fun σ H Q => ∃ x : Cf, x.s = σ ∧ x.H = H ∧ RSt K x ∧ Post K mg T W x (f x.r) (fun d y => y.s = x.s → Q d y.H)
def canG (K : PySem.W.Frag) (mg : Str → Option Value) (W : WX) (T : List Nat) (f : D → M Unit) : TG := fun v σ H Q => ∃ (x : Cf) (d : D), x.s = σ ∧ x.H = H ∧ RSt K x ∧ Rep K x.F v d ∧ Post K mg T W x (f d x.r) (fun _ y => Q y.s y.H)
def canI (K : PySem.W.Frag) (mg : Str → Option Value) (W : WX) (T : List Nat) (f : M (List D)) : TI := fun σ H R => ∃ x : Cf, x.s = σ ∧ x.H = H ∧ RSt K x ∧ Post K mg T W x (f x.r) (fun ds y => y.s = x.s → ∀ J, WalkD K J ds y → R J y.H)
theorem canE_ev {f : M D} : EvE X W T (canE X.K X.mg W T f) f := fun x Q s p => ⟨x, rfl, rfl, s, p⟩
theorem canT_ev {f : M Bool} : EvT X W T (canT X.K X.mg W T f) f := fun x Q s p => ⟨x, rfl, rfl, s, p⟩
theorem canG_ev {f : D → M Unit} : EvG X W T (canG X.K X.mg W T f) f := fun x v d Q s h p => ⟨x, d, rfl, rfl, s, h, p⟩
theorem canI_ev {f : M (List D)} : EvI X W T (canI X.K X.mg W T f) f := fun x Q s p => ⟨x, rfl, rfl, s, p⟩
theorem SE.can {e : Expr} {f : M D} (h : SE X W T e f) : PE X e (canE X.K X.mg W T f) := by
  obtain ⟨te, pe, ev⟩ := h.ex
  constructor
  rintro pins s σ H Q I ⟨x, rfl, rfl, sx, p⟩
  exact pe.run pins s x.s x.H Q I (ev x Q sx p)
theorem STs.can {e : List Expr} {f : M Bool} (h : STs X W T e f) : PTs X e (canT X.K X.mg W T f) := by
  obtain ⟨te, pe, ev⟩ := h.ex
  constructor
  rintro pins s σ H Q I ⟨x, rfl, rfl, sx, p⟩
  exact pe.run pins s x.s x.H Q I (ev x Q sx p)
theorem SG.can {e : Expr} {f : D → M Unit} (h : SG X W T e f) : PG X e (canG X.K X.mg W T f) := by
  obtain ⟨te, pe, ev⟩ := h.ex
  constructor
  rintro pins s σ H v u Q I r ⟨x, d, rfl, rfl, sx, hv, p⟩
  exact pe.run pins s x.s x.H v u Q I r (ev x v d Q sx hv p)
theorem SI.can {tg e : Expr} {f : M (List D)} (h : SI X W T tg e f) : PI X tg e (canI X.K X.mg W T f) := by
  obtain ⟨te, pe, ev⟩ := h.ex
  constructor
  rintro pins s σ H R I ⟨x, rfl, rfl, sx, p⟩
  exact pe.run pins s x.s x.H R I (ev x R sx p)
theorem el_comp (own : List (Str × Nat)) {elt tg iter : Expr} {ifs : List Expr} {scope : Scope} {pos : Pos} {fi : M (List D)} {fg : D → M Unit} {ft : M Bool} {fe : M D} (hc : X.calm = true) (hN : X.N.Nodup) (hi : SI X W T tg iter fi)
    (hg : ∀ (s : Shared) (H : Hp) (C : Addr) (cl : List (Str × Addr)) (fp : List Addr), SG (X.blk s H scope (compEnvC scope cl C X.env) fp) W0 (own.map (·.2)) tg fg)
    (ht : ∀ (s : Shared) (H : Hp) (C : Addr) (cl : List (Str × Addr)) (fp : List Addr), STs (X.blk s H scope (compEnvC scope cl C X.env) fp) W0 T ifs ft)
    (he : ∀ (s : Shared) (H : Hp) (C : Addr) (cl : List (Str × Addr)) (fp : List Addr), SE (X.blk s H scope (compEnvC scope cl C X.env) fp) W0 T elt fe)
    (ok : BlkOk X.N X.env.scope scope own) (hT : ∀ i ∈ own.map (·.2), i ∈ T := by decide) (hs : ∀ x, foldedSetIterable iter X.env x = pure x := by intro _; rfl) : SL X W T (.ListComp elt [⟨tg, iter, ifs, 0⟩] scope pos) (lComp (own.map (·.2)) fi fg ft fe) := by
  obtain ⟨wi, pi, ei⟩ := hi.ex
  exact ⟨_, pe_lc hc hN pi ok (g := canG X.K X.mg W0 (own.map (·.2)) fg) (tt := canT X.K X.mg W0 T ft) (te := canE X.K X.mg W0 T fe) (fun s H C cl fp => (hg s H C cl fp).can) (fun s H C cl fp => (ht s H C cl fp).can) (fun s H C cl fp => (he s H C cl fp).can) hs,
    ev_comp hT ei canG_ev canT_ev canE_ev⟩
/-- y = [..], y a plain local -/
theorem ss_setComp (i : Nat) (own : List (Str × Nat)) {y : Str} {py : Pos} {elt tg iter : Expr} {ifs : List Expr} {scope : Scope} {pos spos : Pos} {fi : M (List D)} {fg : D → M Unit} {ft : M Bool} {fe : M D} (hc : X.calm = true) (hN : X.N.Nodup) (hi : SI X W T tg iter fi)
    (hg : ∀ (s : Shared) (H : Hp) (C : Addr) (cl : List (Str × Addr)) (fp : List Addr), SG (X.blk s H scope (compEnvC scope cl C X.env) fp) W0 (own.map (·.2)) tg fg)
    (ht : ∀ (s : Shared) (H : Hp) (C : Addr) (cl : List (Str × Addr)) (fp : List Addr), STs (X.blk s H scope (compEnvC scope cl C X.env) fp) W0 T ifs ft)
    (he : ∀ (s : Shared) (H : Hp) (C : Addr) (cl : List (Str × Addr)) (fp : List Addr), SE (X.blk s H scope (compEnvC scope cl C X.env) fp) W0 T elt fe)
    (ok : BlkOk X.N X.env.scope scope own) (hsw : swapsWith (.ListComp elt [⟨tg, iter, ifs, 0⟩] scope pos) (some (.Name y py)) spos.line X.env = pure true)
    (hy : X.N[i]? = some y := by rfl) (hyl : X.env.scope.names.lookup y = some .local := by rfl) (hTi : i ∈ T := by decide) (hT : ∀ i ∈ own.map (·.2), i ∈ T := by decide) (hs : ∀ x, foldedSetIterable iter X.env x = pure x := by intro _; rfl) :
    SS X W T (.Assign [.Name y py] (.ListComp elt [⟨tg, iter, ifs, 0⟩] scope pos) spos) (sSet i (xFz (lComp (own.map (·.2)) fi fg ft fe))) := by
  obtain ⟨wi, pi, ei⟩ := hi.ex
  exact ⟨_, ps_setLc hc hN hy hyl hsw pi ok (g := canG X.K X.mg W0 (own.map (·.2)) fg) (tt := canT X.K X.mg W0 T ft) (te := canE X.K X.mg W0 T fe) (fun s H C cl fp => (hg s H C cl fp).can) (fun s H C cl fp => (ht s H C cl fp).can) (fun s H C cl fp => (he s H C cl fp).can) hs,
    ev_set i (ev_comp hT ei canG_ev canT_ev canE_ev).fz hTi⟩
theorem ss_setCompL (i : Nat) (own : List (Str × Nat)) {y : Str} {py : Pos} {elt tg iter : Expr} {ifs : List Expr} {scope : Scope} {pos spos : Pos} {fi : M (List D)} {fg : D → M Unit} {ft : M Bool} {fe : M D} (hc : X.calm = true) (hN : X.N.Nodup) (hi : SI X W T tg iter fi)
    (hg : ∀ (s : Shared) (H : Hp) (C : Addr) (cl : List (Str × Addr)) (fp : List Addr), SG (X.blk s H scope (compEnvC scope cl C X.env) fp) W0 (own.map (·.2)) tg fg)
    (ht : ∀ (s : Shared) (H : Hp) (C : Addr) (cl : List (Str × Addr)) (fp : List Addr), STs (X.blk s H scope (compEnvC scope cl C X.env) fp) W0 T ifs ft)
    (he : ∀ (s : Shared) (H : Hp) (C : Addr) (cl : List (Str × Addr)) (fp : List Addr), SE (X.blk s H scope (compEnvC scope cl C X.env) fp) W0 T elt fe)
    (ok : BlkOk X.N X.env.scope scope own) (hsw : swapsWith (.ListComp elt [⟨tg, iter, ifs, 0⟩] scope pos) (some (.Name y py)) spos.line X.env = pure true)
    (hy : X.N[i]? = some y := by rfl) (hyl : X.env.scope.names.lookup y = some .local := by rfl) (hTi : i ∈ T := by decide) (hT : ∀ i ∈ own.map (·.2), i ∈ T := by decide) (hs : ∀ x, foldedSetIterable iter X.env x = pure x := by intro _; rfl) :
    SS X W T (.Assign [.Name y py] (.ListComp elt [⟨tg, iter, ifs, 0⟩] scope pos) spos) (sSetL i (lComp (own.map (·.2)) fi fg ft fe)) := by
  obtain ⟨wi, pi, ei⟩ := hi.ex
  exact ⟨_, ps_setLc hc hN hy hyl hsw pi ok (g := canG X.K X.mg W0 (own.map (·.2)) fg) (tt := canT X.K X.mg W0 T ft) (te := canE X.K X.mg W0 T fe) (fun s H C cl fp => (hg s H C cl fp).can) (fun s H C cl fp => (ht s H C cl fp).can) (fun s H C cl fp => (he s H C cl fp).can) hs,
    ev_setL i (ev_comp hT ei canG_ev canT_ev canE_ev) hTi⟩
end
end FL
namespace FL
open PySem PySem.Spec L2
section
variable {X : Cx} {W : WX} {T : List Nat} {K : PySem.W.Frag} {x : Str} {st : Stmt} {ps : List Str} {k : Nat} {F : List Ent → R D} {e : Expr} {es : List Expr} {p pos : Pos}
/-! ### built-ins by name -/
def lenB : List D → Option D
  | [.tup ds] => some (.int ds.length)
  | [.lst ds] => some (.int ds.length)
  | [.scr ds] => some (.int ds.length)
  | [.str z] => if decide (z.length ≤ most) then some (.int z.length) else none
  | _ => none
theorem one_arg {F : Hp} {vs : List V} {d : D} (h : RepL K F vs [d]) : ∃ v, vs = [v] ∧ Rep K F v d := by
  cases h with
  | cons h r => cases r; exact ⟨_, rfl, h⟩
theorem two_args {F : Hp} {vs : List V} {d e : D} (h : RepL K F vs [d, e]) : ∃ v w, vs = [v, w] ∧ Rep K F v d ∧ Rep K F w e := by
  cases h with
  | cons h r =>
    obtain ⟨w, rfl, g⟩ := one_arg r
    exact ⟨_, w, rfl, h, g⟩
theorem ok_len : CallOk K (fun xs H Q => ∃ x n, xs = [x] ∧ LenV K x H n ∧ Q (.int n) H) lenB := by
  intro x vs ds z Q s hv q k
  match ds, q with
  | [.tup gs], q =>
    obtain ⟨v, rfl, h⟩ := one_arg hv
    cases q
    cases h with
    | tup h r => exact ⟨_, _, rfl, .inr ⟨_, sameT s.sub h, rfl⟩, by rw [r.length]; exact k x _ (Ext.refl s) (.int _)⟩
  | [.lst gs], q =>
    obtain ⟨v, rfl, h⟩ := one_arg hv
    cases q
    cases h with
    | lst h r => exact ⟨_, _, rfl, .inl ⟨_, SqL.of (s.sub _ _ h), rfl⟩, by rw [r.length]; exact k x _ (Ext.refl s) (.int _)⟩
  | [.scr gs], q =>
    obtain ⟨v, rfl, h⟩ := one_arg hv
    cases q
    cases h with
    | scr h r => exact ⟨_, _, rfl, .inl ⟨_, s.sub.seq h, rfl⟩, by rw [r.length]; exact k x _ (Ext.refl s) (.int _)⟩
  | [.str y], q =>
    obtain ⟨v, rfl, h⟩ := one_arg hv
    simp only [lenB] at q
    split at q
    · rename_i c
      cases q
      cases h
      exact ⟨_, _, rfl, ⟨of_most c, rfl⟩, k x _ (Ext.refl s) (.int _)⟩
    · cases q
def int1 (g : Int → Int) : List D → Option D
  | [.int i] => some (.int (g i))
  | _ => none
def int2 (g : Int → Int → Int) : List D → Option D
  | [.int i, .int j] => some (.int (g i j))
  | _ => none
theorem ok_int1 {g : Int → Int} : CallOk K (fun xs H Q => ∃ i, xs = [.int i] ∧ Q (.int (g i)) H) (int1 g) := by
  intro x vs ds z Q s hv q k
  match ds, q with
  | [.int i], q =>
    obtain ⟨v, rfl, h⟩ := one_arg hv
    cases q
    cases h
    exact ⟨i, rfl, k x _ (Ext.refl s) (.int _)⟩
theorem ok_int2 {g : Int → Int → Int} : CallOk K (fun xs H Q => ∃ i j, xs = [.int i, .int j] ∧ Q (.int (g i j)) H) (int2 g) := by
  intro x vs ds z Q s hv q k
  match ds, q with
  | [.int i, .int j], q =>
    obtain ⟨v, w, rfl, h, h2⟩ := two_args hv
    cases q
    cases h
    cases h2
    exact ⟨i, j, rfl, k x _ (Ext.refl s) (.int _)⟩
def absB : List D → Option D := int1 fun i => if i < 0 then -i else i
def max2B : List D → Option D := int2 fun i j => if j > i then j else i
def min2B : List D → Option D := int2 fun i j => if j < i then j else i
def intB : List D → Option D
  | [.int i] => some (.int i)
  | [.bl b] => some (.int (if b then 1 else 0))
  | _ => none
theorem ok_int : CallOk K (fun xs H Q => (∃ i, xs = [.int i] ∧ Q (.int i) H) ∨ ∃ k, xs = [.bl k] ∧ Q (.int (if k then 1 else 0)) H) intB := by
  intro x vs ds z Q s hv q k
  match ds, q with
  | [.int i], q =>
    obtain ⟨v, rfl, h⟩ := one_arg hv
    cases q
    cases h
    exact .inl ⟨i, rfl, k x _ (Ext.refl s) (.int _)⟩
  | [.bl b], q =>
    obtain ⟨v, rfl, h⟩ := one_arg hv
    cases q
    cases h
    exact .inr ⟨b, rfl, k x _ (Ext.refl s) (.int _)⟩
def strB : List D → Option D
  | [.int i] => if decide (i.natAbs.log2 < 1920) then some (.str (toString i)) else none
  | _ => none
theorem ok_str : CallOk K (fun xs H Q => ∃ i, xs = [.int i] ∧ i.natAbs.log2 < 1920 ∧ Q (.str (toString i)) H) strB := by
  intro x vs ds z Q s hv q k
  match ds, q with
  | [.int i], q =>
    obtain ⟨v, rfl, h⟩ := one_arg hv
    simp only [strB] at q
    split at q
    · rename_i c
      cases q
      cases h
      exact ⟨i, rfl, of_decide_eq_true c, k x _ (Ext.refl s) (.str _)⟩
    · cases q
/-- the name of a value's type -/
def tyN : D → Option String
  | .non => some "NoneType"
  | .bl _ => some "bool"
  | .int _ => some "int"
  | .str _ => some "str"
  | .tup _ => some "tuple"
  | .lst _ => some "list"
  | .dct _ => some "dict"
  | _ => none
def isB : List D → Option D
  | [d, .opq (.ty n)] => match tyN d with
    | some m => (kitB m n).map .bl
    | none => none
  | _ => none
theorem tyX_of {F H : Hp} {v : V} {d : D} {m : String} (e : Same F H) (h : Rep K F v d) (q : tyN d = some m) : TyX K H v (.type m) := by
  cases h <;> try (simp [tyN] at q; done)
  · cases q; exact .base .non
  · cases q; exact .base (.bl _)
  · cases q; exact .base (.int _)
  · cases q; exact .base (.str _)
  · rename_i h r
    cases q
    rcases h with (h | ⟨o, h⟩) | ⟨o, its, n, h, hc, _⟩
    · exact .base (.tup (e _ _ h))
    · exact .fTuple (e _ _ h)
    · exact .kTuple h hc
  · rename_i h r; cases q; exact .base (.lst (e _ _ h))
  · rename_i h r; cases q; exact .base (.dK (e _ _ h))
theorem ok_is : CallOk K (rIsi K) isB := by
  intro x vs ds z Q s hv q k
  match ds, q with
  | [d, .opq (.ty n)], q =>
    obtain ⟨v, w, rfl, h, h2⟩ := two_args hv
    cases h2
    simp only [isB] at q
    split at q
    · rename_i m hm
      cases g : kitB m n with
      | none => rw [g] at q; cases q
      | some b =>
        rw [g] at q
        cases q
        exact ⟨_, _, .type m, .type n, b, rfl, .ty n, tyX_of s.sub h hm, kit_ty g, k x _ (Ext.refl s) (.bl b)⟩
    · cases q
/-- a built-in type's name as a value -/
theorem se_type {n : Str} {t : String} {pos : Pos} (hm : X.mg n = none) (hv : bootBuiltins n = some (.type t)) (hg : Gl X n := by rfl) (hn : n ≠ "__name__" := by decide) (hd : (n == ("__debug__" : Str)) = false := by decide) : SE X W T (.Name n pos) (xC (.opq (.ty t))) :=
  ⟨_, pe_bltn (v := .ty t) hg hm hv rfl hn hd, ev_const fun _ => .opq _⟩
def tupB : List D → Option D
  | [.tup ds] => some (.tup ds)
  | [.lst ds] => some (.tup ds)
  | [.scr ds] => some (.tup ds)
  | _ => none
theorem ok_tup : CallOk K (fun xs H Q => ∃ p ys, xs = [.ref p] ∧ ((SqL K H p ys ∧ ∀ l, H l = none → Q (.ref l) (upd H l (.tup ys))) ∨ (SqT K H p ys ∧ Q (.ref p) H))) tupB := by
  intro x vs ds z Q s hv q k
  have new : ∀ {us : List V} {gs : List D}, RepL K x.F us gs → z = .tup gs → ∀ l, x.H l = none → Q (.ref l) (upd x.H l (.tup us)) := fun r e l hl => by
    subst e
    obtain ⟨a, b⟩ := ext_tup s hl r
    exact k _ _ a b
  match ds, q with
  | [.tup gs], q =>
    obtain ⟨v, rfl, h⟩ := one_arg hv
    cases q
    have h' := h
    cases h with
    | tup h r => exact ⟨_, _, rfl, .inr ⟨sameT s.sub h, k x _ (Ext.refl s) h'⟩⟩
  | [.lst gs], q =>
    obtain ⟨v, rfl, h⟩ := one_arg hv
    cases q
    cases h with
    | lst h r => exact ⟨_, _, rfl, .inl ⟨SqL.of (s.sub _ _ h), new r rfl⟩⟩
  | [.scr gs], q =>
    obtain ⟨v, rfl, h⟩ := one_arg hv
    cases q
    cases h with
    | scr h r => exact ⟨_, _, rfl, .inl ⟨s.sub.seq h, new r rfl⟩⟩
/-- numbers, truths alone -/
def numsOf : List D → Option (List Int)
  | [] => some []
  | .int i :: r => (numsOf r).map (i :: ·)
  | _ => none
def trusOf : List D → Option (List Bool)
  | [] => some []
  | .bl b :: r => (trusOf r).map (b :: ·)
  | _ => none
theorem ints_rep {F : Hp} : ∀ {us : List V} {ds : List D} {ns : List Int}, RepL K F us ds → numsOf ds = some ns → us = ns.map V.int
  | _, _, _, .nil, h => by cases h; rfl
  | _, _, ns, .cons (d := .int i) (ds := ds) h r, q => by
    simp only [numsOf] at q
    cases g : numsOf ds with
    | none => rw [g] at q; cases q
    | some ms =>
      rw [g] at q
      cases q
      cases h
      rw [ints_rep r g]; rfl
theorem bools_rep {F : Hp} : ∀ {us : List V} {ds : List D} {bs : List Bool}, RepL K F us ds → trusOf ds = some bs → us = bs.map V.bl
  | _, _, _, .nil, h => by cases h; rfl
  | _, _, ns, .cons (d := .bl i) (ds := ds) h r, q => by
    simp only [trusOf] at q
    cases g : trusOf ds with
    | none => rw [g] at q; cases q
    | some ms =>
      rw [g] at q
      cases q
      cases h
      rw [bools_rep r g]; rfl
def sumB : List D → Option D
  | [.lst ds] => (numsOf ds).map fun ns => .int ns.sum
  | _ => none
theorem ok_sum : CallOk K (rSum K) sumB := by
  intro x vs ds z Q s hv q k
  match ds, q with
  | [.lst gs], q =>
    obtain ⟨v, rfl, h⟩ := one_arg hv
    simp only [sumB] at q
    cases g : numsOf gs with
    | none => rw [g] at q; cases q
    | some ns =>
      rw [g] at q
      cases q
      cases h with
      | lst h r =>
        have := ints_rep r g
        subst this
        exact ⟨_, ns, rfl, SqL.of (s.sub _ _ h), k x _ (Ext.refl s) (.int _)⟩
def anyB : List D → Option D
  | [.lst ds] => (trusOf ds).map fun bs => .bl (bs.any id)
  | _ => none
def allB : List D → Option D
  | [.lst ds] => (trusOf ds).map fun bs => .bl (bs.all id)
  | _ => none
theorem ok_any : CallOk K (rAny K) anyB := by
  intro x vs ds z Q s hv q k
  match ds, q with
  | [.lst gs], q =>
    obtain ⟨v, rfl, h⟩ := one_arg hv
    simp only [anyB] at q
    cases g : trusOf gs with
    | none => rw [g] at q; cases q
    | some ns =>
      rw [g] at q
      cases q
      cases h with
      | lst h r =>
        have := bools_rep r g
        subst this
        exact ⟨_, ns, rfl, SqL.of (s.sub _ _ h), k x _ (Ext.refl s) (.bl _)⟩
theorem ok_all : CallOk K (rAll K) allB := by
  intro x vs ds z Q s hv q k
  match ds, q with
  | [.lst gs], q =>
    obtain ⟨v, rfl, h⟩ := one_arg hv
    simp only [allB] at q
    cases g : trusOf gs with
    | none => rw [g] at q; cases q
    | some ns =>
      rw [g] at q
      cases q
      cases h with
      | lst h r =>
        have := bools_rep r g
        subst this
        exact ⟨_, ns, rfl, SqL.of (s.sub _ _ h), k x _ (Ext.refl s) (.bl _)⟩
def maxL : List Int → Option Int
  | [] => none
  | i :: r => some (r.foldl max i)
def minL : List Int → Option Int
  | [] => none
  | i :: r => some (r.foldl min i)
theorem foldl_max : ∀ (r : List Int) (i : Int), (r.foldl max i = i ∨ r.foldl max i ∈ r) ∧ i ≤ r.foldl max i ∧ ∀ y ∈ r, y ≤ r.foldl max i
  | [], i => ⟨.inl rfl, Int.le_refl i, fun y h => nomatch h⟩
  | a :: r, i => by
    obtain ⟨h1, h2, h3⟩ := foldl_max r (max i a)
    show (r.foldl max (max i a) = i ∨ r.foldl max (max i a) ∈ a :: r) ∧ i ≤ r.foldl max (max i a) ∧ ∀ y ∈ a :: r, y ≤ r.foldl max (max i a)
    refine ⟨?_, by omega, fun y hy => ?_⟩
    · rcases h1 with h1 | h1
      · by_cases c : a ≤ i
        · left; rw [h1]; omega
        · right; rw [h1, show max i a = a by omega]; exact List.mem_cons_self
      · exact .inr (List.mem_cons_of_mem _ h1)
    · rcases List.mem_cons.mp hy with z | z
      · omega
      · exact h3 y z
theorem foldl_min : ∀ (r : List Int) (i : Int), (r.foldl min i = i ∨ r.foldl min i ∈ r) ∧ r.foldl min i ≤ i ∧ ∀ y ∈ r, r.foldl min i ≤ y
  | [], i => ⟨.inl rfl, Int.le_refl i, fun y h => nomatch h⟩
  | a :: r, i => by
    obtain ⟨h1, h2, h3⟩ := foldl_min r (min i a)
    show (r.foldl min (min i a) = i ∨ r.foldl min (min i a) ∈ a :: r) ∧ r.foldl min (min i a) ≤ i ∧ ∀ y ∈ a :: r, r.foldl min (min i a) ≤ y
    refine ⟨?_, by omega, fun y hy => ?_⟩
    · rcases h1 with h1 | h1
      · by_cases c : i ≤ a
        · left; rw [h1]; omega
        · right; rw [h1, show min i a = a by omega]; exact List.mem_cons_self
      · exact .inr (List.mem_cons_of_mem _ h1)
    · rcases List.mem_cons.mp hy with z | z
      · omega
      · exact h3 y z
theorem maxL_mem {ns : List Int} {m : Int} (h : maxL ns = some m) : m ∈ ns ∧ ∀ y ∈ ns, y ≤ m := by
  cases ns with
  | nil => cases h
  | cons i r =>
    cases h
    obtain ⟨h1, h2, h3⟩ := foldl_max r i
    refine ⟨?_, fun y hy => ?_⟩
    · rcases h1 with h1 | h1
      · rw [h1]; exact List.mem_cons_self
      · exact List.mem_cons_of_mem _ h1
    · rcases List.mem_cons.mp hy with z | z
      · rw [z]; exact h2
      · exact h3 y z
theorem minL_mem {ns : List Int} {m : Int} (h : minL ns = some m) : m ∈ ns ∧ ∀ y ∈ ns, m ≤ y := by
  cases ns with
  | nil => cases h
  | cons i r =>
    cases h
    obtain ⟨h1, h2, h3⟩ := foldl_min r i
    refine ⟨?_, fun y hy => ?_⟩
    · rcases h1 with h1 | h1
      · rw [h1]; exact List.mem_cons_self
      · exact List.mem_cons_of_mem _ h1
    · rcases List.mem_cons.mp hy with z | z
      · rw [z]; exact h2
      · exact h3 y z
def maxB : List D → Option D
  | [.lst ds] => (numsOf ds).bind fun ns => (maxL ns).map .int
  | _ => none
def minB : List D → Option D
  | [.lst ds] => (numsOf ds).bind fun ns => (minL ns).map .int
  | _ => none
theorem ok_max : CallOk K (rMax K) maxB := by
  intro x vs ds z Q s hv q k
  match ds, q with
  | [.lst gs], q =>
    obtain ⟨v, rfl, h⟩ := one_arg hv
    simp only [maxB] at q
    cases g : numsOf gs with
    | none => rw [g] at q; cases q
    | some ns =>
      rw [g] at q
      cases g2 : maxL ns with
      | none => simp only [Option.bind_some, g2] at q; cases q
      | some m =>
        simp only [Option.bind_some, g2] at q
        cases q
        cases h with
        | lst h r =>
          have := ints_rep r g
          subst this
          refine ⟨_, ns, rfl, SqL.of (s.sub _ _ h), ?_, fun m' h1 h2 => ?_⟩
          · cases ns with
            | nil => cases g2
            | cons _ _ => exact Nat.succ_pos _
          · obtain ⟨h3, h4⟩ := maxL_mem g2
            have : m' = m := Int.le_antisymm (h4 m' h1) (h2 m h3)
            subst this
            exact k x _ (Ext.refl s) (.int _)
theorem ok_min : CallOk K (rMin K) minB := by
  intro x vs ds z Q s hv q k
  match ds, q with
  | [.lst gs], q =>
    obtain ⟨v, rfl, h⟩ := one_arg hv
    simp only [minB] at q
    cases g : numsOf gs with
    | none => rw [g] at q; cases q
    | some ns =>
      rw [g] at q
      cases g2 : minL ns with
      | none => simp only [Option.bind_some, g2] at q; cases q
      | some m =>
        simp only [Option.bind_some, g2] at q
        cases q
        cases h with
        | lst h r =>
          have := ints_rep r g
          subst this
          refine ⟨_, ns, rfl, SqL.of (s.sub _ _ h), ?_, fun m' h1 h2 => ?_⟩
          · cases ns with
            | nil => cases g2
            | cons _ _ => exact Nat.succ_pos _
          · obtain ⟨h3, h4⟩ := minL_mem g2
            have : m' = m := Int.le_antisymm (h2 m h3) (h4 m' h1)
            subst this
            exact k x _ (Ext.refl s) (.int _)
def dmB : List D → Option D
  | [.int i, .int j] => if decide (0 < j ∧ j < 1073741824) then some (.tup [.int (i / j), .int (i % j)]) else none
  | _ => none
theorem ok_dm : CallOk K (fun xs H Q => ∃ i j, xs = [.int i, .int j] ∧ CDiv i j ∧ ∀ p, H p = none → Q (.ref p) (upd H p (.tup [.int (i / j), .int (i % j)]))) dmB := by
  intro x vs ds z Q s hv q k
  match ds, q with
  | [.int i, .int j], q =>
    obtain ⟨v, w, rfl, h, h2⟩ := two_args hv
    cases h
    cases h2
    simp only [dmB] at q
    split at q
    · rename_i c
      cases q
      refine ⟨i, j, rfl, (of_decide_eq_true c : 0 < j ∧ j < 1073741824), fun p hp => ?_⟩
      obtain ⟨a, b⟩ := ext_tup s hp (.cons (.int (i / j)) (.cons (.int (i % j)) .nil))
      exact k _ _ a b
    · cases q
def gcdB : List D → Option D := int2 fun a b => ((Nat.gcd a.natAbs b.natAbs : Nat) : Int)
theorem se_gcd {id : String} {r : List V → Hp → VK → Prop} {o : List D → Option D} {fa : M (List D)} (hc : CallR X (.builtin id) r) (h : CallOk X.K r o) (hm : X.mg x = some (.builtin id)) (ha : SD X W T (e :: es) fa) (hg : Gl X x := by rfl)
    (hdb : (x == ("__debug__" : Str)) = false := by decide) (he : starEach (e :: es) X.env = (false, eval e X.env) :: starEach es X.env := by rfl) (hpl : (backTo pos (starEach es X.env)).any (·.1) = false := by rfl) : SE X W T (.Call (.Name x p) (e :: es) [] pos) (xB o fa) := by
  obtain ⟨ta, pa, ea⟩ := ha.ex
  exact ⟨_, pe_callBfun hc hg hm pa hdb he hpl, ev_b h ea⟩
/-- list(x): a new list -/
def listB : List D → Option (List D)
  | [.tup ds] => some ds
  | [.lst ds] => some ds
  | [.scr ds] => some ds
  | _ => none
def lB (o : List D → Option (List D)) (m : M (List D)) : M (List D) := mB m fun ds => mO (o ds)
theorem el_list {fa : M (List D)} (hm : X.mg x = none) (ha : SD X W T (e :: es) fa) (hv : bootBuiltins x = some (.type "list")) (hg : Gl X x := by rfl) (hn : x ≠ "__name__" := by decide)
    (hdb : (x == ("__debug__" : Str)) = false := by decide) (he : starEach (e :: es) X.env = (false, eval e X.env) :: starEach es X.env := by rfl) (hpl : (backTo pos (starEach es X.env)).any (·.1) = false := by rfl) : SL X W T (.Call (.Name x p) (e :: es) [] pos) (lB listB fa) := by
  obtain ⟨ta, pa, ea⟩ := ha.ex
  refine ⟨_, pe_callTy call_list_of hg hm hv pa hn hdb he hpl, fun x Q s p => ?_⟩
  refine ea.bind s p fun ds y f1 s1 e1 vs hv p1 => ?_
  cases q : listB ds with
  | none => rw [q] at p1; exact p1.elim
  | some gs =>
    rw [q] at p1
    have new : ∀ {us : List V}, RepL X.K y.F us gs → ∀ l, y.H l = none → Q (.ref l) (upd y.H l (.lst us)) := fun {us} r l hl => by
      have ex := Ext.raw (o := .lst us) s1 hl
      exact Post.here p1 ex s1 (ex.s.trans e1) l us ⟨upd_same, s1.sub.free hl, r⟩ (f1.dm l hl) fun i k c => not_cel s1 hl i k c
    match ds, q with
    | [.tup gs], q =>
      obtain ⟨v, rfl, h⟩ := one_arg hv
      cases q
      cases h with
      | tup h r => exact ⟨_, _, rfl, .inr (sameT s1.sub h), new r⟩
    | [.lst gs], q =>
      obtain ⟨v, rfl, h⟩ := one_arg hv
      cases q
      cases h with
      | lst h r => exact ⟨_, _, rfl, .inl (SqL.of (s1.sub _ _ h)), new r⟩
    | [.scr gs], q =>
      obtain ⟨v, rfl, h⟩ := one_arg hv
      cases q
      cases h with
      | scr h r => exact ⟨_, _, rfl, .inl (s1.sub.seq h), new r⟩
end
end FL
namespace FL
open PySem PySem.Spec L2
open PyProof.Rows (envOfC)
section
variable {X : Cx} {W : WX} {T : List Nat} {K : PySem.W.Frag} {x : Str} {st : Stmt} {ps : List Str} {k : Nat} {F : List Ent → R D} {e : Expr} {es : List Expr} {p pos : Pos}
/-! ### a def's body -/
def outs (io : Option Nat) (r : List Ent) : Option (List Ent) := match io with
  | none => some []
  | some i => match r[i]? with
    | some (.cel .io ds) => some [.cel .io ds]
    | _ => none
/-- what the def is, as a plain function: n its names, b its body -/
def defF (io : Option Nat) (fr : Bool) (n : Nat) (b : M Fl) : List Ent → R D := fun es => match b (es ++ List.replicate (n - es.length) .no) with
  | .ok fl r => match outs io r with
    | some o => match fl, fr with
      | .nx, false => .ok .non o
      | .rt d, false => .ok d o
      | .rtL ds, true => .ok (.lst ds) o
      | _, _ => .bad
    | none => .bad
  | .exc c pl r => match outs io r with
    | some o => .exc c pl o
    | none => .bad
  | .bad => .bad
/-- the state of the body at the entry -/
def bodyOf (x : Cf) (m : Nat) : Cf := ⟨x.F, x.H, x.s ++ List.replicate m none, x.r ++ List.replicate m .no⟩
theorem app_get {α : Type} {l : List α} {m : Nat} {a b : α} {i : Nat} (h : (l ++ List.replicate m a)[i]? = some b) : l[i]? = some b ∨ b = a := by
  by_cases c : i < l.length
  · rw [List.getElem?_append_left c] at h; exact .inl h
  · rw [List.getElem?_append_right (by omega), List.getElem?_replicate] at h
    split at h
    · exact .inr (Option.some.inj h).symm
    · cases h
theorem app_left {α : Type} {l l' : List α} {i : Nat} {b : α} (h : l[i]? = some b) : (l ++ l')[i]? = some b := by
  have := (List.getElem?_eq_some_iff.mp h).1
  rw [List.getElem?_append_left this]; exact h
theorem body_cel {x : Cf} {m i : Nat} {k : CK} {p : Addr} (h : CelAt (bodyOf x m) i k p) (hl : x.s.length = x.r.length) : CelAt x i k p := by
  obtain ⟨⟨ds, h1⟩, h2⟩ := h
  rcases app_get (show (x.r ++ List.replicate m Ent.no)[i]? = some (.cel k ds) from h1) with g | g
  · rcases app_get (show (x.s ++ List.replicate m none)[i]? = some (some (.ref p)) from h2) with g2 | g2
    · exact ⟨⟨ds, g⟩, g2⟩
    · cases g2
  · cases g
theorem body_ok {x : Cf} {m : Nat} (s : RSt K x) : RSt K (bodyOf x m) where
  sub := s.sub
  len := by show (x.s ++ List.replicate m none).length = (x.r ++ List.replicate m Ent.no).length; simp [s.len]
  val := fun i d h => by
    rcases app_get (show (x.r ++ List.replicate m Ent.no)[i]? = some (.val d) from h) with g | g
    · obtain ⟨v, h1, h2⟩ := s.val i d g
      exact ⟨v, app_left h1, h2⟩
    · cases g
  cel := fun i k ds h => by
    rcases app_get (show (x.r ++ List.replicate m Ent.no)[i]? = some (.cel k ds) from h) with g | g
    · obtain ⟨v, h1, h2⟩ := s.cel i k ds g
      exact ⟨v, app_left h1, h2⟩
    · cases g
  dis := fun i j k l p h1 h2 => s.dis i j k l p (body_cel h1 s.len) (body_cel h2 s.len)
theorem body_end {x y : Cf} {m : Nat} {io : Option Nat} {o : List Ent} (s : RSt K x) (hio : ∀ i k p, CelAt x i k p → io = some i ∧ k = .io) (f : Fr T (bodyOf x m) y) (sy : RSt K y) (ho : outs io y.r = some o) :
    Fr io.toList x ⟨y.F, y.H, x.s, outR io x.r o⟩ ∧ RSt K ⟨y.F, y.H, x.s, outR io x.r o⟩ := by
  have cb : ∀ i k p, CelAt (bodyOf x m) i k p → CelAt x i k p := fun i k p c => body_cel c s.len
  -- the changed list, if any
  have keyr : ∀ i e, (outR io x.r o)[i]? = some e → x.r[i]? = some e ∨ (io = some i ∧ ∃ ds, e = .cel .io ds ∧ y.r[i]? = some (.cel .io ds)) := by
    intro i e h
    cases io with
    | none => exact .inl h
    | some j =>
      unfold outs at ho
      simp only at ho
      split at ho
      · rename_i ds g
        cases ho
        rcases get_set (show (x.r.set j (.cel .io ds))[i]? = some e from h) with ⟨e1, e2, _⟩ | ⟨e1, g2⟩
        · subst e1
          exact .inr ⟨rfl, ds, e2.symm, g⟩
        · exact .inl g2
      · cases ho
  have keyc : ∀ i k p, CelAt ⟨y.F, y.H, x.s, outR io x.r o⟩ i k p → CelAt x i k p := by
    rintro i k p ⟨⟨ds, h1⟩, h2⟩
    rcases keyr i (.cel k ds) h1 with g | ⟨g1, es, g2, g3⟩
    · exact ⟨⟨ds, g⟩, h2⟩
    · injection g2 with g4 g5
      subst g4 g5
      obtain ⟨q, h3, us, h4, h5, h6⟩ := sy.cel i _ _ g3
      rcases f.cc i _ q ⟨⟨_, g3⟩, h3⟩ with ⟨z, _⟩ | z
      · cases z
      · obtain ⟨z1, z2⟩ := cb _ _ _ z
        exact ⟨z1, h2⟩
  have lenr : (outR io x.r o).length = x.r.length := by
    unfold outR
    split
    · exact List.length_set ..
    · rfl
  constructor
  · refine ⟨lenr, f.ff, f.dm, fun a u h => ?_, fun a u h n => ?_, fun i k p c => .inr (keyc i k p c), fun i hi => ⟨?_, rfl⟩⟩
    · rcases f.nw a u h with g | g | ⟨i, g⟩
      · exact .inl g
      · exact .inr (.inl g)
      · have := (hio i _ a (cb _ _ _ g)).2
        cases this
    · refine f.hp a u h fun i _ k c => ?_
      have c' := cb _ _ _ c
      have := (hio i k a c').1
      exact n i (by rw [this]; exact List.mem_singleton.mpr rfl) k c'
    · cases e : (outR io x.r o)[i]? with
      | none =>
        rw [List.getElem?_eq_none_iff] at e
        exact (List.getElem?_eq_none (by omega)).symm
      | some en =>
        rcases keyr i en e with g | ⟨g, _⟩
        · exact g.symm
        · rw [g] at hi; exact (hi (List.mem_singleton.mpr rfl)).elim
  · refine ⟨sy.sub, by show x.s.length = (outR io x.r o).length; rw [lenr]; exact s.len, fun i d h => ?_, fun i k es h => ?_, fun i j k l p c c' => s.dis i j k l p (keyc _ _ _ c) (keyc _ _ _ c')⟩
    · rcases keyr i _ h with g | ⟨_, ds, g, _⟩
      · obtain ⟨v, h1, h2⟩ := s.val i d g
        exact ⟨v, h1, h2.mono f.ff⟩
      · cases g
    · rcases keyr i _ h with g | ⟨_, ds, g, g3⟩
      · -- a caller's list that is not given back: there is none
        obtain ⟨p, h1, _⟩ := s.cel i k es g
        obtain ⟨e1, e2⟩ := hio i k p ⟨⟨es, g⟩, h1⟩
        subst e1 e2
        have h' := h
        unfold outs at ho
        simp only at ho
        split at ho
        · rename_i ds g3
          cases ho
          rcases get_set (show (x.r.set i (.cel .io ds))[i]? = some (.cel .io es) from h') with ⟨_, e3, _⟩ | ⟨e3, _⟩
          · cases e3
            obtain ⟨q, h3, h4⟩ := sy.cel i _ es g3
            rcases f.cc i _ q ⟨⟨es, g3⟩, h3⟩ with ⟨z, _⟩ | z
            · cases z
            · have z2 := (cb _ _ _ z).2
              exact ⟨q, z2, h4⟩
          · exact (e3 rfl).elim
        · cases ho
      · cases g
        obtain ⟨q, h3, h4⟩ := sy.cel i _ es g3
        rcases f.cc i _ q ⟨⟨es, g3⟩, h3⟩ with ⟨z, _⟩ | z
        · cases z
        · exact ⟨q, (cb _ _ _ z).2, h4⟩
/-- THE RULE for a def -/
theorem def_ok {P : Program} {w : World} {K : PySem.W.Frag} {mg : Str → Option Value} {base : Heap} {x : Str} {st : Stmt} {N ps : List Str} {k : Nat} {io : Option Nat} {fr : Bool} {T : List Nat} {b : M Fl}
    (hd : ∃ f fd, mg x = some (.ref f) ∧ Fun K x x st f fd ∧ Binds K fd ps []) (S : FnScope N ps (defScope st))
    (body : ∀ (f : Addr) (cdv : Value) (A : Around) (outer : List Env) (s : Shared) (H : Hp) (E : XK), Room k (A.deeper (envOfC x (defScope st) s.heap.objs.size f cdv)) →
      Takes (cxOf (L2.CX P w) P w K mg base N x (defScope st) f cdv A outer s H E) (fun cls d _ H => E cls d H) → PassesOwn (model P w) (A.deeper (envOfC x (defScope st) s.heap.objs.size f cdv)) (envOfC x (defScope st) s.heap.objs.size f cdv) (cxOf (L2.CX P w) P w K mg base N x (defScope st) f cdv A outer s H E).xe →
      SSs (cxOf (L2.CX P w) P w K mg base N x (defScope st) f cdv A outer s H E) (fun cls d _ H => E cls d H) T (defBody st) b) :
    DefOk P w K mg base x st ps (k + 1) io fr (defF io fr N.length b) := by
  obtain ⟨f, fd, hm, Fn, hb⟩ := hd
  refine ⟨f, fd, hm, Fn.kp, Fn, ?_, hb⟩
  refine Fn.okX S (fun vs H Q E h => h.1) fun cdv A outer s H vs Q E hr h => ?_
  obtain ⟨ts, pts, ev⟩ := (body f cdv A outer s H E hr (takes_of rfl rfl rfl rfl) (passes_of rfl)).ex
  refine ⟨ts, pts, ?_⟩
  obtain ⟨hl, z, rfl, hs, sz, hio, hp⟩ := h
  have hzl : z.s.length = ps.length := by rw [hs, List.length_map]; exact hl
  have e1 : L2.start N vs = (bodyOf z (N.length - z.r.length)).s := by
    unfold L2.start bodyOf
    rw [hs, ← sz.len, hs, List.length_map]
  rw [e1]
  refine ev (bodyOf z (N.length - z.r.length)) _ (body_ok sz) ?_
  have e2 : (bodyOf z (N.length - z.r.length)).r = z.r ++ List.replicate (N.length - z.r.length) Ent.no := rfl
  unfold defF at hp
  rw [e2]
  cases q : b (z.r ++ List.replicate (N.length - z.r.length) Ent.no) with
  | bad => rw [q] at hp; exact hp.elim
  | exc c pl ρ =>
    rw [q] at hp
    intro y cls dx hy fy sy w
    rw [← hy] at hp
    simp only at hp
    split at hp
    · rename_i o ho
      obtain ⟨g1, g2⟩ := body_end sz hio fy sy ho
      exact hp ⟨y.F, y.H, z.s, outR io z.r o⟩ cls dx rfl rfl g1 g2 w
    · exact hp.elim
  | ok fl ρ =>
    rw [q] at hp
    intro y hy fy sy
    rw [← hy] at hp
    simp only at hp
    split at hp
    · rename_i o ho
      obtain ⟨g1, g2⟩ := body_end sz hio fy sy ho
      cases fl with
      | nx =>
        cases fr with
        | true => exact hp.elim
        | false => exact hp ⟨y.F, y.H, z.s, outR io z.r o⟩ rfl rfl g1 g2 _ Rep.non
      | br => cases fr <;> exact hp.elim
      | co => cases fr <;> exact hp.elim
      | rt d =>
        cases fr with
        | true => exact hp.elim
        | false => exact fun v hv => hp ⟨y.F, y.H, z.s, outR io z.r o⟩ rfl rfl g1 g2 v hv
      | rtL ds =>
        cases fr with
        | false => exact hp.elim
        | true =>
          intro p us h1 h2
          have h3 : z.H p = none := by
            rcases h2 with h2 | ⟨i, h2⟩
            · exact h2
            · have := (hio i _ p (body_cel h2 sz.len)).2
              cases this
          exact hp ⟨y.F, y.H, z.s, outR io z.r o⟩ rfl rfl g1 g2 (.ref p) ⟨p, ds, rfl, rfl, us, h1, h3⟩
    · exact hp.elim
end
end FL
namespace FL
open PySem PySem.Spec L2
section
variable {X : Cx} {W : WX} {T : List Nat} {K : PySem.W.Frag} {x : Str} {st : Stmt} {ps : List Str} {k : Nat} {F : List Ent → R D} {e : Expr} {es : List Expr} {p pos : Pos}
/-! ### arguments, one of them a list that the callee changes -/
def aVal (a : M D) (r : M (List Arg)) : M (List Arg) := mB a fun d => mB r fun as => mP (.val d :: as)
def hasS (j : Nat) : M Unit := fun r => match r[j]? with
  | some (.cel _ _) => .ok () r
  | _ => .bad
def aLate (j : Nat) (r : M (List Arg)) : M (List Arg) := mB (hasS j) fun _ => mB r fun as => mP (.late j :: as)
theorem ArgsR.shift {x y : Cf} {vs : List V} {as : List Arg} (f : Same x.F y.F) (hs : y.s = x.s) (h : ArgsR K x vs as) : ArgsR K y vs as := by
  induction h with
  | nil => exact .nil
  | cons h _ ih => exact .cons (h.shift f hs) ih
theorem sa_nil : SA X W T [] (mP []) := ⟨_, pa_nil, fun x Q s p => p x rfl (Fr.refl T x) s rfl [] .nil⟩
theorem sa_val {fa : M D} {fr : M (List Arg)} (ha : SE X W T e fa) (hr : SA X W T es fr) (hs : starEach (e :: es) X.env = (false, eval e X.env) :: starEach es X.env := by rfl) : SA X W T (e :: es) (aVal fa fr) := by
  obtain ⟨ta, pa, ea⟩ := ha.ex
  obtain ⟨tr, pr, er⟩ := hr.ex
  refine ⟨_, pa_cons pa pr hs, fun x Q s p => ?_⟩
  refine ea.bind s p fun d y f1 s1 e1 v hv p1 => ?_
  show tr x.s y.H _
  rw [← e1]
  exact er.bind s1 p1 fun as z f2 s2 e2 vs hvs p2 => p2 z rfl (Fr.refl T z) s2 (e2.trans e1) (v :: vs) (.cons (.val (hv.mono f2.ff)) hvs)
theorem sa_late (j : Nat) {n : Str} {p1 : Pos} {fr : M (List Arg)} (hr : SA X W T es fr) (hN : X.N[j]? = some n := by rfl) (hv : Vis X.env.scope n := by first | exact Or.inl rfl | exact Or.inr (Or.inl rfl) | exact Or.inr (Or.inr rfl)) (hd : (n == ("__debug__" : Str)) = false := by decide)
    (hc : (n == ("__classdict__" : Str)) = false := by decide) (hs : starEach (.Name n p1 :: es) X.env = (false, eval (.Name n p1) X.env) :: starEach es X.env := by rfl) : SA X W T (.Name n p1 :: es) (aLate j fr) := by
  obtain ⟨tr, pr, er⟩ := hr.ex
  refine ⟨_, pa_cons (pe_var (i := j) hN hv hd hc) pr hs, fun x Q s p => ?_⟩
  obtain ⟨⟨k, ds, q, us, e0, h0, h1⟩, p1⟩ := hasC_run s p
  refine ⟨_, h0, ?_⟩
  exact er.bind s p1 fun as z f2 s2 e2 vs hvs p2 => p2 z rfl (Fr.refl T z) s2 e2 (.ref q :: vs) (.cons (.late (by rw [e2]; exact h0)) hvs)
def allV : List Arg → Option (List D)
  | [] => some []
  | .val d :: r => (allV r).map (d :: ·)
  | .late _ :: _ => none
def splitA : List Arg → Option (List D × Nat × List D)
  | [] => none
  | .val d :: r => (splitA r).map fun t => (d :: t.1, t.2.1, t.2.2)
  | .late j :: r => (allV r).map fun ds => ([], j, ds)
theorem allV_rep {y : Cf} : ∀ {vs : List V} {as : List Arg} {ds : List D}, ArgsR K y vs as → allV as = some ds → RepL K y.F vs ds
  | _, _, _, .nil, h => by cases h; exact .nil
  | _, _, _, .cons (a := .val d) (as := as) (.val h) r, q => by
    simp only [allV] at q
    cases g : allV as with
    | none => rw [g] at q; cases q
    | some es => rw [g] at q; cases q; exact .cons h (allV_rep r g)
theorem splitA_rep {y : Cf} : ∀ {vs : List V} {as : List Arg} {pre post : List D} {j : Nat}, ArgsR K y vs as → splitA as = some (pre, j, post) → ∃ vs1 v vs2, vs = vs1 ++ v :: vs2 ∧ RepL K y.F vs1 pre ∧ RepL K y.F vs2 post ∧ y.s[j]? = some (some v)
  | _, _, _, _, _, .nil, h => by cases h
  | _, _, _, _, _, .cons (v := v) (a := .val d) (as := as) (.val h) r, q => by
    simp only [splitA] at q
    cases g : splitA as with
    | none => rw [g] at q; cases q
    | some t =>
      rw [g] at q
      obtain ⟨t1, t2, t3⟩ := t
      cases q
      obtain ⟨vs1, w, vs2, e, h1, h2, h3⟩ := splitA_rep r g
      exact ⟨v :: vs1, w, vs2, by rw [e]; rfl, .cons h h1, h2, h3⟩
  | _, _, _, _, _, .cons (v := v) (vs := vs) (a := .late j) (as := as) (.late h) r, q => by
    simp only [splitA] at q
    cases g : allV as with
    | none => rw [g] at q; cases q
    | some es =>
      rw [g] at q
      cases q
      exact ⟨[], v, vs, rfl, .nil, allV_rep r g, h⟩
/-- the callee's slots -/
def ioArgs (pre : List D) (ds : List D) (post : List D) : List Ent := valsOf pre ++ .cel .io ds :: valsOf post
theorem ioArgs_get {pre ds post : List D} {a : Nat} {en : Ent} (h : (ioArgs pre ds post)[a]? = some en) :
    (∃ d, pre[a]? = some d ∧ en = .val d ∧ a < pre.length) ∨ (a = pre.length ∧ en = .cel .io ds) ∨ ∃ b d, a = pre.length + 1 + b ∧ post[b]? = some d ∧ en = .val d := by
  unfold ioArgs at h
  have hl : (valsOf pre).length = pre.length := List.length_map ..
  by_cases c : a < pre.length
  · rw [List.getElem?_append_left (by omega)] at h
    obtain ⟨d, h1, h2⟩ := valsOf_get h
    exact .inl ⟨d, h1, h2, c⟩
  · rw [List.getElem?_append_right (by omega), hl] at h
    cases q : a - pre.length with
    | zero =>
      rw [q] at h
      exact .inr (.inl ⟨by omega, (Option.some.inj h).symm⟩)
    | succ b =>
      rw [q] at h
      obtain ⟨d, h1, h2⟩ := valsOf_get (show (valsOf post)[b]? = some en from h)
      exact .inr (.inr ⟨b, d, by omega, h1, h2⟩)
def callW (np i : Nat) (T : List Nat) (F : List Ent → R D) (m : M (List Arg)) (β : Type) (k : D → Option β) : M β := mB m fun as r => match splitA as with
  | some (pre, j, post) => if decide (as.length = np ∧ pre.length = i ∧ j ∈ T) then (match r[j]? with
    | some (.cel kk ds) => match F (ioArgs pre ds post) with
      | .ok d [.cel .io es] => match k d with
        | some b => .ok b (r.set j (.cel kk es))
        | none => .bad
      | .exc c pl [.cel .io es] => .exc c pl (r.set j (.cel kk es))
      | _ => .bad
    | _ => .bad) else .bad
  | none => .bad
def callI (np i : Nat) (T : List Nat) (F : List Ent → R D) (m : M (List Arg)) : M D := callW np i T F m D some
def unL : D → Option (List D)
  | .lst ds => some ds
  | _ => none
def callIL (np i : Nat) (T : List Nat) (F : List Ent → R D) (m : M (List Arg)) : M (List D) := callW np i T F m (List D) unL
/-- the caller's state behind the call -/
theorem io_back {y z : Cf} {j i : Nat} {kk : CK} {ds es pre post : List D} {vs : List V} {q : Addr} {us : List V} (s : RSt K y) (hj : j ∈ T) (h : y.r[j]? = some (.cel kk ds)) (hs : y.s[j]? = some (some (.ref q))) (hp : y.H q = some (.lst us)) (fq : y.F q = none)
    (hi : pre.length = i) (hvi : vs[i]? = some (.ref q)) (f : Fr [i] ⟨y.F, y.H, vs.map some, ioArgs pre ds post⟩ z) (sz : RSt K z) (zs : z.s = vs.map some) (zr : z.r = (ioArgs pre ds post).set i (.cel .io es)) :
    Fr T y ⟨z.F, z.H, y.s, y.r.set j (.cel kk es)⟩ ∧ RSt K ⟨z.F, z.H, y.s, y.r.set j (.cel kk es)⟩ ∧ ∀ a k p, CelAt ⟨z.F, z.H, y.s, y.r.set j (.cel kk es)⟩ a k p → CelAt y a k p := by
  have lio : i < (ioArgs pre ds post).length := by unfold ioArgs valsOf; simp; omega
  have celx : ∀ a k p, CelAt ⟨y.F, y.H, vs.map some, ioArgs pre ds post⟩ a k p → a = i ∧ k = .io ∧ p = q := by
    rintro a k p ⟨⟨gs, h1⟩, h2⟩
    rcases ioArgs_get h1 with ⟨d, _, e, _⟩ | ⟨e1, e2⟩ | ⟨b, d, _, _, e⟩
    · cases e
    · cases e2
      have h2' : (vs.map some)[a]? = some (some (V.ref p)) := h2
      rw [e1, hi, List.getElem?_map, hvi] at h2'
      cases h2'
      exact ⟨by omega, rfl, rfl⟩
    · cases e
  have cely : CelAt y j kk q := ⟨⟨ds, h⟩, hs⟩
  have keyc : ∀ a k p, CelAt ⟨z.F, z.H, y.s, y.r.set j (.cel kk es)⟩ a k p → CelAt y a k p := by
    rintro a k p ⟨⟨gs, h1⟩, h2⟩
    rcases get_set h1 with ⟨e1, e2, _⟩ | ⟨e1, g⟩
    · subst e1
      cases e2
      exact ⟨⟨ds, h⟩, h2⟩
    · exact ⟨⟨gs, g⟩, h2⟩
  refine ⟨?_, ?_, keyc⟩
  · refine ⟨List.length_set .., f.ff, f.dm, fun a o e => ?_, fun a o e n => ?_, fun a k p c => .inr (keyc a k p c), fun a ha => ⟨List.getElem?_set_ne (fun z => ha (by rw [← z]; exact hj)), rfl⟩⟩
    · rcases f.nw a o e with g | g | ⟨b, g⟩
      · exact .inl g
      · exact .inr (.inl g)
      · have := (celx b _ a g).2.1
        cases this
    · refine f.hp a o e fun b _ k c => ?_
      obtain ⟨_, _, e3⟩ := celx b k a c
      exact n j hj kk (by rw [e3]; exact cely)
  · refine ⟨sz.sub, by show y.s.length = (y.r.set j _).length; rw [List.length_set]; exact s.len, fun a d e => ?_, fun a k gs e => ?_, fun a b k l p c c' => s.dis a b k l p (keyc _ _ _ c) (keyc _ _ _ c')⟩
    · rcases get_set e with ⟨_, e2, _⟩ | ⟨_, g⟩
      · cases e2
      · obtain ⟨v, h1, h2⟩ := s.val a d g
        exact ⟨v, h1, h2.mono f.ff⟩
    · rcases get_set e with ⟨e1, e2, _⟩ | ⟨e1, g⟩
      · subst e1
        cases e2
        obtain ⟨p, h1, h2⟩ := sz.cel i .io es (by rw [zr]; exact List.getElem?_set_self lio)
        rw [zs, List.getElem?_map, hvi] at h1
        cases h1
        exact ⟨q, hs, h2⟩
      · obtain ⟨p, h1, ws, h2, h3, h4⟩ := s.cel a k gs g
        have ne : p ≠ q := fun z => e1 (s.dis j a kk k q cely ⟨⟨gs, g⟩, by rw [← z]; exact h1⟩)
        refine ⟨p, h1, ws, h2.mono f.ff, f.hp p _ h3 (fun b _ k' c => ne (celx b k' p c).2.2), ?_⟩
        show z.F p = none
        cases w : z.F p with
        | none => rfl
        | some o =>
          rcases f.nw p o w with ⟨u, g2⟩ | g2 | ⟨b, g2⟩
          · have g3 : y.F p = some u := g2
            rw [h4] at g3; cases g3
          · have g3 : y.H p = none := g2
            rw [h3] at g3; cases g3
          · exact (ne (celx b _ p g2).2.2).elim
theorem ev_callW {np i : Nat} {fr : Bool} {ta : TA} {fa : M (List Arg)} {β : Type} {k : D → Option β} {Qf : β → Cf → Prop} {x : Cf} {Q : VK} (ea : EvA X W T ta fa) (s : RSt X.K x) (p : Post X.K X.mg T W x (callW np i T F fa β k x.r) Qf)
    (fin : ∀ y z d b, Fr T x y → RSt X.K y → y.s = x.s → z.s = y.s → k d = some b → RSt X.K z → Fr T y z → (∀ i k p, CelAt z i k p → CelAt y i k p) → Qf b z → ∀ v, (∃ x' z' : Cf, x'.H = y.H ∧ z'.H = z.H ∧ z'.F = z.F ∧ RetR X.K fr x' z' v d) → Q v z.H) :
    tCallSD (SpF X.K X.mg (some i) fr np F) [] (WE W) ta x.s x.H Q := by
  refine ea.bind s p fun as y f1 s1 e1 vs hv p1 => ?_
  rw [List.append_nil]
  cases q0 : splitA as with
  | none => simp only [q0] at p1; exact p1.elim
  | some t =>
    obtain ⟨pre, j, post⟩ := t
    simp only [q0] at p1
    by_cases c : decide (as.length = np ∧ pre.length = i ∧ j ∈ T) = true
    case neg => rw [if_neg c] at p1; exact p1.elim
    rw [if_pos c] at p1
    obtain ⟨c1, c2, c3⟩ := of_decide_eq_true c
    obtain ⟨vs1, v0, vs2, rfl, r1, r2, hj⟩ := splitA_rep hv q0
    cases q1 : y.r[j]? with
    | none => simp only [q1] at p1; exact p1.elim
    | some en =>
      simp only [q1] at p1
      cases en with
      | no => exact p1.elim
      | val d => exact p1.elim
      | cel kk ds =>
        simp only at p1
        obtain ⟨q, h1, us, h2, h3, h4⟩ := s1.cel j kk ds q1
        rw [hj] at h1
        cases h1
        have lv : (vs1 ++ V.ref q :: vs2).length = np := by
          have : ∀ {vs : List V} {as : List Arg}, ArgsR X.K y vs as → vs.length = as.length := fun h => by
            induction h with
            | nil => rfl
            | cons _ _ ih => exact congrArg (· + 1) ih
          rw [this hv]; exact c1
        have hvi : (vs1 ++ V.ref q :: vs2)[i]? = some (.ref q) := by
          rw [← c2, ← r1.length, List.getElem?_append_right (Nat.le_refl _), Nat.sub_self]; rfl
        have celx : ∀ a k p, CelAt ⟨y.F, y.H, (vs1 ++ V.ref q :: vs2).map some, ioArgs pre ds post⟩ a k p → some i = some a ∧ k = .io := by
          rintro a k p ⟨⟨gs, g1⟩, g2⟩
          rcases ioArgs_get g1 with ⟨d, _, e, _⟩ | ⟨e1, e2⟩ | ⟨b, d, _, _, e⟩
          · cases e
          · cases e2
            exact ⟨by rw [e1, c2], rfl⟩
          · cases e
        have sx : RSt X.K ⟨y.F, y.H, (vs1 ++ V.ref q :: vs2).map some, ioArgs pre ds post⟩ := by
          refine ⟨s1.sub, ?_, fun a d h => ?_, fun a k gs h => ?_, fun a b k l p cc cc' => ?_⟩
          · show ((vs1 ++ V.ref q :: vs2).map some).length = (ioArgs pre ds post).length
            unfold ioArgs valsOf
            simp [r1.length, r2.length]
          · rcases ioArgs_get h with ⟨d', g1, e, g2⟩ | ⟨_, e2⟩ | ⟨b, d', g0, g1, e⟩
            · cases e
              obtain ⟨v, g3, g4⟩ := r1.get g1
              refine ⟨v, ?_, g4⟩
              show ((vs1 ++ V.ref q :: vs2).map some)[a]? = _
              rw [List.getElem?_map, List.getElem?_append_left (by rw [r1.length]; exact g2), g3]; rfl
            · cases e2
            · cases e
              obtain ⟨v, g3, g4⟩ := r2.get g1
              refine ⟨v, ?_, g4⟩
              show ((vs1 ++ V.ref q :: vs2).map some)[a]? = _
              rw [List.getElem?_map, g0, List.getElem?_append_right (by rw [r1.length]; omega), r1.length, show pre.length + 1 + b - pre.length = b + 1 by omega]
              show ((vs2[b]?).map some) = _
              rw [g3]; rfl
          · rcases ioArgs_get h with ⟨d', _, e, _⟩ | ⟨e1, e2⟩ | ⟨b, d', _, _, e⟩
            · cases e
            · cases e2
              refine ⟨q, ?_, us, h2, h3, h4⟩
              show ((vs1 ++ V.ref q :: vs2).map some)[a]? = _
              rw [List.getElem?_map, e1, c2, hvi]; rfl
            · cases e
          · have e1 := (celx a k p cc).1
            have e2 := (celx b l p cc').1
            have e3 := e1.symm.trans e2
            exact Option.some.inj e3
        refine ⟨lv, ⟨y.F, y.H, (vs1 ++ V.ref q :: vs2).map some, ioArgs pre ds post⟩, rfl, rfl, sx, celx, ?_⟩
        show PostF X.K X.mg (some i) fr _ (F (ioArgs pre ds post)) Q _
        cases q2 : F (ioArgs pre ds post) with
        | bad => simp only [q2] at p1; exact p1.elim
        | exc cn pl o =>
          match o, q2 with
          | [.cel .io es], q2 =>
            simp only [q2] at p1
            intro z cls dx zs zr fz sz w
            obtain ⟨a1, a2, a3⟩ := io_back s1 c3 q1 hj h3 h4 c2 hvi fz sz zs zr
            have := p1 ⟨z.F, z.H, y.s, y.r.set j (.cel kk es)⟩ cls dx rfl a1 a2 w
            rw [show (⟨z.F, z.H, y.s, y.r.set j (.cel kk es)⟩ : Cf).s = x.s from e1] at this
            exact this
          | [], q2 => simp only [q2] at p1; exact p1.elim
          | [.no], q2 => simp only [q2] at p1; exact p1.elim
          | [.val _], q2 => simp only [q2] at p1; exact p1.elim
          | [.cel .own _], q2 => simp only [q2] at p1; exact p1.elim
          | _ :: _ :: _, q2 => simp only [q2] at p1; exact p1.elim
        | ok d o =>
          match o, q2 with
          | [.cel .io es], q2 =>
            simp only [q2] at p1
            cases q3 : k d with
            | none => simp only [q3] at p1; exact p1.elim
            | some b =>
              simp only [q3] at p1
              intro z zs zr fz sz v hv2
              obtain ⟨a1, a2, a3⟩ := io_back s1 c3 q1 hj h3 h4 c2 hvi fz sz zs zr
              exact fin y ⟨z.F, z.H, y.s, y.r.set j (.cel kk es)⟩ d b f1 s1 e1 rfl q3 a2 a1 a3 (p1 _ rfl a1 a2) v ⟨_, z, rfl, rfl, rfl, hv2⟩
          | [], q2 => simp only [q2] at p1; exact p1.elim
          | [.no], q2 => simp only [q2] at p1; exact p1.elim
          | [.val _], q2 => simp only [q2] at p1; exact p1.elim
          | [.cel .own _], q2 => simp only [q2] at p1; exact p1.elim
          | _ :: _ :: _, q2 => simp only [q2] at p1; exact p1.elim
theorem ev_callI {np i : Nat} {ta : TA} {fa : M (List Arg)} (ea : EvA X W T ta fa) : EvE X W T (tCallSD (SpF X.K X.mg (some i) false np F) [] (WE W) ta) (callI np i T F fa) := by
  intro x Q s p
  refine ev_callW ea s p fun y z d b f1 s1 e1 e2 hk sz fz hcc q v hr => ?_
  cases hk
  obtain ⟨x', z', g1, g2, g3, h⟩ := hr
  have h' : Rep X.K z'.F v d := h
  rw [g3] at h'
  exact q (e2.trans e1) v h'
theorem ev_callIL {np i : Nat} {ta : TA} {fa : M (List Arg)} (ea : EvA X W T ta fa) : EvL X W T (tCallSD (SpF X.K X.mg (some i) true np F) [] (WE W) ta) (callIL np i T F fa) := by
  intro x Q s p
  refine ev_callW ea s p fun y z d b f1 s1 e1 e2 hk sz fz hcc q v hr => ?_
  obtain ⟨x', z', g1, g2, g3, p', es, rfl, rfl, us, ⟨h1, h2, h3⟩, h4⟩ := hr
  cases hk
  rw [g1] at h4
  exact q (e2.trans e1) p' us ⟨by rw [← g2]; exact h1, by rw [← g3]; exact h2, by rw [← g3]; exact h3⟩ (f1.dm p' h4) fun i k c => not_cel s1 h4 i k (hcc i k p' c)
variable {f0 : Addr}
theorem se_callI {np : Nat} {i : Nat} (G : DefOk X.prog X.w X.K X.mg X.base x st ps k (some i) false F) (hr : Room k X.A) (tk : Takes X W) {fa : M (List Arg)} (ha : SA X W T (e :: es) fa) (hg : Gl X x := by rfl) (hdb : (x == ("__debug__" : Str)) = false := by decide)
    (he : starEach (e :: es) X.env = (false, eval e X.env) :: starEach es X.env := by rfl) (hpl : (backTo pos (starEach es X.env)).any (·.1) = false := by rfl) (hn : ps.length = np := by rfl) : SE X W T (.Call (.Name x p) (e :: es) [] pos) (callI np i T F fa) := by
  subst hn
  obtain ⟨f, fd, hm, hk, _, FO, hb⟩ := G.ex
  obtain ⟨ta, pa, ea⟩ := ha.ex
  exact ⟨_, pe_callSD FO hr hg hm hk hb .nil (fun σ => passAt tk σ) pa hdb he hpl, ev_callI ea⟩
theorem el_callI {np : Nat} {i : Nat} (G : DefOk X.prog X.w X.K X.mg X.base x st ps k (some i) true F) (hr : Room k X.A) (tk : Takes X W) {fa : M (List Arg)} (ha : SA X W T (e :: es) fa) (hg : Gl X x := by rfl) (hdb : (x == ("__debug__" : Str)) = false := by decide)
    (he : starEach (e :: es) X.env = (false, eval e X.env) :: starEach es X.env := by rfl) (hpl : (backTo pos (starEach es X.env)).any (·.1) = false := by rfl) (hn : ps.length = np := by rfl) : SL X W T (.Call (.Name x p) (e :: es) [] pos) (callIL np i T F fa) := by
  subst hn
  obtain ⟨f, fd, hm, hk, _, FO, hb⟩ := G.ex
  obtain ⟨ta, pa, ea⟩ := ha.ex
  exact ⟨_, pe_callSD FO hr hg hm hk hb .nil (fun σ => passAt tk σ) pa hdb he hpl, ev_callIL ea⟩
/-! ### a call by names alone -/
def EvK (X : Cx) (W : WX) (T : List Nat) (ta : TA) (f : M (List D)) : Prop := EvD X W T ta f
structure SK (X : Cx) (W : WX) (T : List Nat) (kws : List Keyword) (f : M (List D)) : Prop where
  ex : ∃ ta, PK X kws ta ∧ EvD X W T ta f
theorem sk_nil : SK X W T [] (mP []) := ⟨_, pk_nil, fun x Q s p => p x rfl (Fr.refl T x) s rfl [] .nil⟩
theorem sk_cons {nm : Option Str} {kpos : Pos} {kws : List Keyword} {fa : M D} {fr : M (List D)} (ha : SE X W T e fa) (hr : SK X W T kws fr) : SK X W T (⟨nm, e, kpos⟩ :: kws) (dCons fa fr) := by
  obtain ⟨ta, pa, ea⟩ := ha.ex
  obtain ⟨tr, pr, er⟩ := hr.ex
  refine ⟨_, pk_cons pa pr, fun x Q s p => ?_⟩
  refine ea.bind s p fun d y f1 s1 e1 v hv p1 => ?_
  show tr x.s y.H _
  rw [← e1]
  exact er.bind s1 p1 fun ds z f2 s2 e2 vs hvs p2 => p2 z rfl (Fr.refl T z) s2 (e2.trans e1) (v :: vs) (.cons (hv.mono f2.ff) hvs)
/-- the values in the parameters' order: ix tells for each parameter which keyword is its -/
def ordL {α : Type} (ix : List Nat) (l : List α) : List α := ix.filterMap fun i => l[i]?
def tCallKw (sp : Sp) (m : Nat) (ix : List Nat) (E : L2.St → XK) (tk : TA) : TE := fun σ H Q => tk σ H fun zs H2 => zs.length = m ∧ sp (ordL ix zs) H2 Q (E σ)
theorem ordL_vals {ix : List Nat} {vs : List V} {us : List Value} (r : Vals vs us) : Vals (ordL ix vs) (ordL ix us) := by
  unfold ordL
  induction ix with
  | nil => exact .nil
  | cons i ix ih =>
    rw [List.filterMap_cons, List.filterMap_cons]
    cases q : vs[i]? with
    | none => rw [r.none_of q]; exact ih
    | some v =>
      obtain ⟨u, h1, h2⟩ := r.get q
      rw [h1]
      exact .cons h2 ih
theorem ordL_rep {F : Hp} {ix : List Nat} {vs : List V} {ds : List D} (r : RepL K F vs ds) : RepL K F (ordL ix vs) (ordL ix ds) := by
  unfold ordL
  induction ix with
  | nil => exact .nil
  | cons i ix ih =>
    rw [List.filterMap_cons, List.filterMap_cons]
    cases q : ds[i]? with
    | none =>
      have : vs[i]? = none := by
        rw [List.getElem?_eq_none_iff] at q ⊢
        rw [r.length]; exact q
      rw [this]; exact ih
    | some d =>
      obtain ⟨v, h1, h2⟩ := r.get q
      rw [h1]
      exact .cons h2 ih
structure KwB (fd : FuncData) (ps ks : List Str) (ix : List Nat) : Prop where
  to : ∀ (s : Shared) (ws : List Value), ws.length = ks.length → BindsTo s fd ⟨[], ks.zip ws⟩ (ps.zip (ordL ix ws))
theorem pe_callKw {CX : CXT} {f : Addr} {fd : FuncData} {sp : Sp} {kws : List Keyword} {ks : List Str} {ix : List Nat} {tk : TA} {E : L2.St → XK} (FO : FnOk X.prog X.w X.K X.mg X.base CX k f fd ps sp) (hr : Room k X.A) (hg : Gl X x) (hm : X.mg x = some (.ref f)) (hk : PySem.W.keepIn X.K (.ref f) = true)
    (hb : KwB fd ps ks ix) (hx : ∀ σ, PassesAt CX X σ (E σ)) (hkw : PK X kws tk) (hall : (backToKw pos (keywordEach kws X.env)).all (·.1.isSome) = true) (hks : (backToKw pos (keywordEach kws X.env)).filterMap (·.1) = ks)
    (hdb : (x == ("__debug__" : Str)) = false) (hpl : ((backTo pos (starEach [] X.env)).any (·.1) || (backToKw pos (keywordEach kws X.env)).any (·.1.isNone)) = false) : PE X (.Call (.Name x p) [] kws pos) (tCallKw sp ks.length ix E tk) := by
  constructor
  intro pins s σ H Q I h
  refine wpAny_Call_Name_kw (ld_glob I hg hm ?_ hdb)
  refine PySem.W.callWith_KW0 (h₀ := X.base) I.ok.mod.kin hk hall ?_ hpl
  refine thn (hkw.run pos pins s σ H _ I h) fun ws s2 q => ?_
  obtain ⟨zs, H2, I2, rz, l1, q2⟩ := q
  refine ⟨I2.kIn, ?_⟩
  rw [hks]
  refine wpAny_call (codeAny_mono (FO.run X.A X.stack s2 H2 ⟨[] ++ [], ks.zip ws⟩ (ordL ix ws) (ordL ix zs) Q (E σ) hr I2.env0 (hb.to s2 ws (rz.length.symm.trans l1)) (ordL_vals rz) q2) fun r s' hq => ?_)
  cases r with
  | error e => exact hx σ pins H2 s2 e s' I2 hq
  | ok fl =>
    cases fl with
    | ret u => exact I2.after hq
    | next => exact hq.elim
    | brk => exact hq.elim
    | cont => exact hq.elim
/-- how a def of the text binds its names -/
def BindKw (x : Str) (st : Stmt) (ps ks : List Str) (ix : List Nat) : Prop := ∀ (kV doc pm : Value) (an : Option Addr) (cdv ct : Value) (ws : List Value), ws.length = ks.length →
  bindArgs (PySem.W.fnOf x x (defArgs st) (defBody st) (defScope st) .none kV doc pm an cdv ct) ⟨[], ks.zip ws⟩ = pure (ps.zip (ordL ix ws))
def callKw (np m : Nat) (ix : List Nat) (F : List Ent → R D) (a : M (List D)) : M D := mB a fun ds r => if decide (ds.length = m ∧ (ordL ix ds).length = np) then (match F (valsOf (ordL ix ds)) with
  | .ok d _ => .ok d r
  | .exc c pl _ => .exc c pl r
  | .bad => .bad) else .bad
theorem se_callKw {np nk : Nat} {kws : List Keyword} {ks : List Str} (ix : List Nat) (G : DefOk X.prog X.w X.K X.mg X.base x st ps k none false F) (hr : Room k X.A) (tk : Takes X W) {fa : M (List D)} (ha : SK X W T kws fa) (hb : BindKw x st ps ks ix) (hg : Gl X x := by rfl)
    (hall : (backToKw pos (keywordEach kws X.env)).all (·.1.isSome) = true := by rfl) (hks : (backToKw pos (keywordEach kws X.env)).filterMap (·.1) = ks := by rfl) (hdb : (x == ("__debug__" : Str)) = false := by decide)
    (hpl : ((backTo pos (starEach [] X.env)).any (·.1) || (backToKw pos (keywordEach kws X.env)).any (·.1.isNone)) = false := by rfl) (hn : ps.length = np := by rfl) (hm : ks.length = nk := by rfl) : SE X W T (.Call (.Name x p) [] kws pos) (callKw np nk ix F fa) := by
  subst hn hm
  obtain ⟨f, fd, hm, hk, Fn, FO, _⟩ := G.ex
  obtain ⟨ta, pa, ea⟩ := ha.ex
  have kb : KwB fd ps ks ix := by
    obtain ⟨oc, od, kV, doc, pm, an, cdv, ct, osl, rfl, lk, hcd⟩ := Fn.ex
    exact ⟨fun s ws hl => .of_eq (hb kV doc pm an cdv ct ws hl)⟩
  refine ⟨_, pe_callKw FO hr hg hm hk kb (fun σ => passAt tk σ) pa hall hks hdb hpl, fun x Q s p => ?_⟩
  refine ea.bind s p fun ds y f1 s1 e1 vs hv p1 => ?_
  by_cases c : decide (ds.length = ks.length ∧ (ordL ix ds).length = ps.length) = true
  · rw [if_pos c] at p1
    obtain ⟨c1, c2⟩ := of_decide_eq_true c
    refine ⟨by rw [hv.length]; exact c1, call_run s1 (ordL_rep hv) c2 (fun d o q z ex v hv' => ?_) (fun c pl o q z cls dx ex w => ?_) (fun q => ?_)⟩
    · rw [q] at p1; exact Post.here p1 ex s1 (ex.s.trans e1) v hv'
    · rw [q] at p1
      have := p1 z cls dx ex.r (ex.fr T) (ex.rst s1) w
      rw [ex.s, e1] at this
      exact this
    · rw [q] at p1; exact p1
  · rw [if_neg c] at p1
    exact p1.elim
end
end FL
namespace FL
open PySem PySem.Spec L2 HT
open PyProof.Rows (IsTup)
/-! ### read from behind -/
section
variable {prog : Program} {w : World} {A : Around} {E : Value → Shared → Prop} {s : Shared}
theorem behind_sl {sl : Addr} {vl vu vs : Value} {n : Nat} {Q : Int × Int × Nat → Shared → Prop} (hs : s.heap.IsSliceOf sl vl vu vs) (pl : IsPart vl none) (pu : IsPart vu none) (ps : IsPart vs (some (-1))) (h : Q ((n : Int) - 1, -1, n) s) :
    wpAny (model prog w) A (Builtin.Slice.sliceApplied (.ref sl) (pure (n : Int))) Q E s := by
  obtain ⟨os, hos, hcs, hds⟩ := id hs
  unfold Builtin.Slice.sliceApplied Builtin.Slice.sliceFields
  refine wpAny_bind (wpAny_bind (wpAny_field hos hds (x := vl) rfl (wpAny_bind (wpAny_field hos hds (x := vu) rfl (wpAny_bind (wpAny_field hos hds (x := vs) rfl (wpAny_pure ?_)))))))
  refine wpAny_bind (slicePart_ ps ?_)
  show wpAny _ _ (if ((-1 : Int) == 0) = true then _ else _) _ _ s
  rw [if_neg (by decide)]
  refine wpAny_bind (slicePart_ pl (wpAny_bind (slicePart_ pu (wpAny_bind (wpAny_pure ?_)))))
  have e : Builtin.Slice.slicePlaces ((n : Int) - 1) (-1) (-1) = n := by
    unfold Builtin.Slice.slicePlaces
    rw [if_neg (by decide)]
    by_cases c : (n : Int) - 1 > -1
    · rw [if_pos c, show (- -1 : Int) = 1 from rfl, Int.ediv_one]; omega
    · rw [if_neg c]; omega
  show wpAny _ _ (pure ((n : Int) - 1, (-1 : Int), Builtin.Slice.slicePlaces ((n : Int) - 1) (-1) (-1))) _ _ s
  rw [e]
  exact wpAny_pure h
theorem behind_pick (items : Array Value) : ((List.range items.size).filterMap fun (m : Nat) => items[(((items.size : Int) - 1) + (m : Int) * (-1)).toNat]?).toArray = items.toList.reverse.toArray := by
  have e : ((List.range items.size).filterMap fun (m : Nat) => items[(((items.size : Int) - 1) + (m : Int) * (-1)).toNat]?) = ((List.range items.size).map fun m => items.size - 1 - m).filterMap (items[·]?) := by
    rw [List.filterMap_map]
    congr 1
    funext m
    show items[_]? = items[items.size - 1 - m]?
    by_cases c : m < items.size
    · rw [show (((items.size : Int) - 1) + (m : Int) * (-1)).toNat = items.size - 1 - m by omega]
    · rw [show (((items.size : Int) - 1) + (m : Int) * (-1)).toNat = 0 by omega, show items.size - 1 - m = 0 by omega]
  rw [e, PySem.W.krv_range, List.filterMap_reverse, PySem.W.krv_all]
theorem behind_tup {t sl : Addr} {items : Array Value} {vl vu vs : Value} {Q : Value → Shared → Prop} (ht : IsTup s.heap t items) (hs : s.heap.IsSliceOf sl vl vu vs) (pl : IsPart vl none) (pu : IsPart vu none) (ps : IsPart vs (some (-1))) (hz : items.size ≤ sizeLine)
    (h : Q (.ref s.heap.objs.size) { s with heap := s.heap.push { cls := .type "tuple", data := .seq items.toList.reverse.toArray } }) : wpAny (model prog w) A (getItem (.ref t) (.ref sl)) Q E s := by
  obtain ⟨os, hos, hcs, hds⟩ := id hs
  have hTs : s.TypeIs (.ref sl) "slice" := ⟨os, hos, hcs⟩
  have hsz : sizeOk (.seq items.toList.reverse.toArray) := by
    show items.toList.reverse.toArray.size ≤ sizeLine
    simpa using hz
  unfold getItem
  try with_reducible refine wpAny_holding ?_
  first | refine wpAny_bind (wpAny_pure ?_) | skip
  refine wpAny_bind (wpAny_sequenceKey ht.typeIs (by decide) ?_)
  refine wpAny_bind (wpAny_callSpecial?_slot (name := Str.ofString "__getitem__") ht.typeIs PyProof.Rows.slot_tuple_getitem (wpAny_call_entry PyProof.Rows.slot_tuple_getitem ht.typeIs PyProof.Rows.entry_tuple_getitem ?_ (PyProof.Rows.args_tuple_getitem _ _)))
  show wpAny _ _ (Builtin.Tuple.tupleItemsOf (.ref t) >>= _) _ _ s
  refine wpAny_bind (PyProof.Rows.tupleItemsOf_ ht ?_)
  refine wpAny_bind (wpAny_typeOf hTs ?_)
  rw [if_pos (by decide)]
  refine wpAny_bind (behind_sl hs pl pu ps ?_)
  have hno : ¬ ((((items.size : Int) - 1 == 0) && ((-1 : Int) == 1) && (items.size == items.size)) = true) := by
    intro q
    rw [Bool.and_eq_true, Bool.and_eq_true] at q
    exact absurd q.1.2 (by decide)
  show wpAny _ _ (if (((items.size : Int) - 1 == 0) && ((-1 : Int) == 1) && (items.size == items.size)) = true then _ else _) _ _ s
  rw [if_neg hno, behind_pick]
  first
    | exact wpAny_bind (m := Builtin.Tuple.tupleExact _) (wpAny_newObj_type (wpAny_pure ⟨_, rfl, wpAny_pure h⟩) hsz)
    | exact wpAny_bind (wpAny_bind (m := Builtin.Tuple.tupleExact _) (wpAny_newObj_type (wpAny_pure ⟨_, rfl, wpAny_pure h⟩) hsz))
    | exact wpAny_bind (m := Builtin.Tuple.tupleExact _) (wpAny_newObj_type (wpAny_bind (wpAny_pure (wpAny_pure ⟨_, rfl, wpAny_pure h⟩))) hsz)
    | exact wpAny_bind (wpAny_bind (m := Builtin.Tuple.tupleExact _) (wpAny_newObj_type (wpAny_pure (wpAny_pure ⟨_, rfl, wpAny_pure h⟩)) hsz))
end
theorem push_keeps (h : Heap) (o : Obj) : ∀ b ob, h.get? b = some ob → (h.push o).get? b = some ob := fun b ob q => Heap.get?_push_of_some _ q
section
variable {X : Cx} {W : WX} {T : List Nat} {K : PySem.W.Frag}
def tRevA (K : PySem.W.Frag) (te : TE) : TE := fun σ H Q => te σ H fun x H1 => ∃ a xs, x = .ref a ∧ ((SqL K H1 a xs ∧ ∀ p, H1 p = none → Q (.ref p) (upd H1 p (.lst xs.reverse))) ∨ (SqT K H1 a xs ∧ ∀ p, H1 p = none → Q (.ref p) (upd H1 p (.tup xs.reverse))))
theorem pe_revSeq {e : Expr} {te : TE} {k : Nat} {p1 p2 p3 pos : Pos} (he : PE X e te) : PE X (.Subscript e (.Slice none none (some (.UnaryOp .USub (.Constant (.int 1) k p1) p2)) p3) pos) (tRevA X.K te) := by
  constructor
  intro pins s σ H Q I h
  refine PyProof.Rows.Subscript_ (thn (he.run pins s σ H _ I h) fun v s1 w => ?_)
  obtain ⟨x, H1, I1, r1, a, xs, ex, q⟩ := w
  subst ex
  cases r1
  have hst : PO X (some (.UnaryOp .USub (.Constant (.int 1) k p1) p2)) (tPart (tUn (rU fun i => .int (-i)) (tC (.int 1)))) := po_some (pe_un un_neg pe_int)
  refine wpAny_Slice (thn (po_none.run pins s1 σ H1 (fun o H2 => o = none ∧ H2 = H1) I1 ⟨rfl, rfl⟩) fun vl s2 w => ?_)
  obtain ⟨l, H2, I2, pl, el, e2⟩ := w
  subst el e2
  refine thn (po_none.run pins s2 σ H2 (fun o H3 => o = none ∧ H3 = H2) I2 ⟨rfl, rfl⟩) fun vu s3 w => ?_
  obtain ⟨u, H3, I3, pu, eu, e3⟩ := w
  subst eu e3
  refine thn (hst.run pins s3 σ H3 (fun o H4 => o = some (-1) ∧ H4 = H3) I3 ⟨1, rfl, -1, rfl, rfl, rfl⟩) fun vs s4 w => ?_
  obtain ⟨o, H4, I4, ps, eo, e4⟩ := w
  subst eo e4
  have I5 : Inv X pins σ H4 { s4 with heap := s4.heap.push { cls := .type "slice", data := .fields #[vl, vu, vs] } } := I4.kept (t' := s4.toks) fun b ob q => Heap.get?_push_of_some _ q
  show wpAny (model X.prog X.w) X.A (PyProof.Rows.subscriptTail e (.Slice none none (some (.UnaryOp .USub (.Constant (.int 1) k p1) p2)) p3) (.ref a) (.ref s4.heap.objs.size)) (EP X pins σ Q) X.xe { s4 with heap := s4.heap.push { cls := .type "slice", data := .fields #[vl, vu, vs] } }
  rcases q with ⟨hx, q⟩ | ⟨hx, q⟩
  · obtain ⟨its, r, ht, hz⟩ := I5.list hx
    have hlen := r.length
    refine PyProof.Rows.tail_any (ops := [.ref a, .ref s4.heap.objs.size]) ht.isList.typeIs (PySem.slot_list_getitem.lookup) ?_ (by with_unfolding_all rfl)
    refine wpAny_getItem_list_slice ht.isList (Heap.IsSliceOf.new _ vl vu vs) pl pu ps (by decide) ?_ (by rw [List.size_toArray]; omega)
    rw [PySem.W.krv_pick]
    refine ⟨.ref _, _, I5.laid (o := .lst xs.reverse) (t' := s4.toks) (push_keeps _ _) (Nat.le_refl _) ?_, rfl, q _ (I5.hok.fresh (Nat.le_refl _))⟩
    exact ⟨by rw [List.length_reverse]; exact hz, _, 0, r.reverse, Heap.get?_push_size _ rfl⟩
  · obtain ⟨its, r, ht, hz⟩ := I5.tuple hx
    have hlen := r.length
    refine PyProof.Rows.tail_any (ops := [.ref a, .ref s4.heap.objs.size]) ht.typeIs (PyProof.Rows.slot_tuple_getitem.lookup) ?_ (by with_unfolding_all rfl)
    refine behind_tup ht (Heap.IsSliceOf.new _ vl vu vs) pl pu ps (by rw [List.size_toArray]; omega) ?_
    refine ⟨.ref _, _, I5.laid (o := .tup xs.reverse) (t' := s4.toks) (push_keeps _ _) (Nat.le_refl _) ?_, rfl, q _ (I5.hok.fresh (Nat.le_refl _))⟩
    exact ⟨by rw [List.length_reverse]; exact hz, _, r.reverse, ⟨_, Heap.get?_push_size _ rfl, rfl, _, rfl⟩⟩
def revD : D → Option D
  | .tup ds => some (.tup ds.reverse)
  | .lst ds => some (.lst ds.reverse)
  | .scr ds => some (.lst ds.reverse)
  | _ => none
theorem se_rev {e : Expr} {f : M D} {k : Nat} {p1 p2 p3 pos : Pos} (he : SE X W T e f) : SE X W T (.Subscript e (.Slice none none (some (.UnaryOp .USub (.Constant (.int 1) k p1) p2)) p3) pos) (x1 revD f) := by
  obtain ⟨te, pe, ev⟩ := he.ex
  refine ⟨_, pe_revSeq pe, fun x Q s p => ?_⟩
  refine ev.bind s p fun d y f1 s1 e1 v hv p1 => ?_
  cases q : revD d with
  | none => rw [q] at p1; exact p1.elim
  | some z =>
    rw [q] at p1
    cases hv <;> try (simp [revD] at q; done)
    · rename_i h r
      cases q
      refine ⟨_, _, rfl, .inr ⟨sameT s1.sub h, fun l hl => ?_⟩⟩
      obtain ⟨a, b⟩ := ext_tup s1 hl r.rev
      exact Post.here p1 a s1 (a.s.trans e1) _ b
    · rename_i h r
      cases q
      refine ⟨_, _, rfl, .inl ⟨SqL.of (s1.sub _ _ h), fun l hl => ?_⟩⟩
      obtain ⟨a, b⟩ := ext_lst s1 hl r.rev
      exact Post.here p1 a s1 (a.s.trans e1) _ b
    · rename_i h r
      cases q
      refine ⟨_, _, rfl, .inl ⟨s1.sub.seq h, fun l hl => ?_⟩⟩
      obtain ⟨a, b⟩ := ext_lst s1 hl r.rev
      exact Post.here p1 a s1 (a.s.trans e1) _ b
/-! ### a call of a parameter that holds a def -/
/-- slot i holds the def that the module names x -/
def isDef (i : Nat) (x : Str) : M Unit := fun r => match r[i]? with
  | some (.val (.dfn y)) => if y = x then .ok () r else .bad
  | _ => .bad
def tCallLS (i : Nat) (f : Addr) (sp : Sp) (E : L2.St → XK) (t : TA) : TE := fun σ H Q => σ[i]? = some (some (.ref f)) ∧ t σ H fun vs H1 => sp vs H1 Q (E σ)
theorem pe_callLS {CX : CXT} {i k : Nat} {f : Addr} {fd : FuncData} {ps : List Str} {sp : Sp} {E : L2.St → XK} {x : Str} {p pos : Pos} {e : Expr} {es : List Expr} {t : TA} (F : FnOk X.prog X.w X.K X.mg X.base CX k f fd ps sp) (hr : Room k X.A) (hN : X.N[i]? = some x) (hv : Vis X.env.scope x) (hk : PySem.W.keepIn X.K (.ref f) = true)
    (hb : Binds X.K fd ps []) (hx : ∀ σ, PassesAt CX X σ (E σ)) (ha : PA X (e :: es) t) (hdb : (x == ("__debug__" : Str)) = false) (hcd : (x == ("__classdict__" : Str)) = false)
    (he : starEach (e :: es) X.env = (false, eval e X.env) :: starEach es X.env) (hpl : (backTo pos (starEach es X.env)).any (·.1) = false) : PE X (.Call (.Name x p) (e :: es) [] pos) (tCallLS i f sp E t) := by
  constructor
  intro pins s σ H Q I h
  obtain ⟨h0, h⟩ := h
  have run := (pe_var (X := X) (i := i) (pos := p) hN hv hdb hcd).run pins s σ H (fun v H' => v = .ref f ∧ H' = H) I ⟨_, h0, rfl, rfl⟩
  refine wpAny_Call_Name_kw (thn run fun u s1 w => ?_)
  obtain ⟨v, H1, I1, r, rfl, rfl⟩ := w
  cases r
  refine PySem.W.callWith_K (h₀ := X.base) I1.ok.mod.kin hk (thn (ha.run pos pins s1 σ H1 _ I1 h) fun us s2 w => ?_) he hpl
  obtain ⟨vs, H2, I2, r2, q⟩ := w
  refine ⟨I2.kIn, ?_⟩
  exact run_fnSD (E := E) F hr hb .nil (hx σ) I2 r2 (by rw [List.append_nil]; exact q)
/-- the address of the def that the module names x -/
def callP (i : Nat) (v : Str) (np : Nat) (F : List Ent → R D) (m : M (List D)) : M D := mB (isDef i v) fun _ => callD np F m
theorem se_callP {np : Nat} (i : Nat) {k : Nat} {x xf : Str} {st : Stmt} {ps : List Str} {F : List Ent → R D} {f : Addr} {p pos : Pos} {e : Expr} {es : List Expr} {fa : M (List D)} (G : DefOk X.prog X.w X.K X.mg X.base xf st ps k none false F) (hf : X.mg xf = some (.ref f)) (hns : PySem.W.nsIn X.K mainGlobals xf = some (some (.ref f))) (hr : Room k X.A) (tk : Takes X W) (ha : SD X W T (e :: es) fa)
    (hN : X.N[i]? = some x := by rfl) (hv : Vis X.env.scope x := by first | exact Or.inl rfl | exact Or.inr (Or.inl rfl) | exact Or.inr (Or.inr rfl)) (hdb : (x == ("__debug__" : Str)) = false := by decide) (hcd : (x == ("__classdict__" : Str)) = false := by decide)
    (he : starEach (e :: es) X.env = (false, eval e X.env) :: starEach es X.env := by rfl) (hpl : (backTo pos (starEach es X.env)).any (·.1) = false := by rfl) (hn : ps.length = np := by rfl) : SE X W T (.Call (.Name x p) (e :: es) [] pos) (callP i xf np F fa) := by
  subst hn
  obtain ⟨f', fd, hm, hk, _, FO, hb⟩ := G.ex
  have ef : f' = f := by rw [hf] at hm; cases hm; rfl
  subst ef
  obtain ⟨ta, pa, ea⟩ := ha.ex
  refine ⟨_, pe_callLS (E := WE W) FO hr hN hv hk hb (fun σ => passAt tk σ) pa hdb hcd he hpl, fun x Q s p => ?_⟩
  unfold callP isDef mB at p
  cases q : x.r[i]? with
  | none => simp only [q] at p; exact p.elim
  | some en =>
    simp only [q] at p
    cases en with
    | no => exact p.elim
    | cel _ _ => exact p.elim
    | val d =>
      cases d <;> try exact p.elim
      rename_i w
      by_cases c : w = xf
      · subst c
        simp only [if_true] at p
        obtain ⟨v, h1, h2⟩ := s.val i _ q
        cases h2
        rename_i g hg
        rw [hns] at hg
        cases hg
        refine ⟨h1, ?_⟩
        have := ev_call (np := ps.length) (F := F) ea x Q s p
        unfold tCallSD at this
        simp only [List.append_nil] at this
        exact this
      · simp only [c, if_false] at p
        exact p.elim
/-- a def of the module as a value -/
theorem se_def {x : Str} {f : Addr} {pos : Pos} (hm : X.mg x = some (.ref f)) (hns : PySem.W.nsIn X.K mainGlobals x = some (some (.ref f))) (hg : Gl X x := by rfl) (hd : (x == ("__debug__" : Str)) = false := by decide) : SE X W T (.Name x pos) (xC (.dfn x)) :=
  ⟨_, pe_glob (v := .ref f) hg hm rfl hd, ev_const fun _ => .dfn hns⟩
end
end FL
namespace FL
open PySem PySem.Spec L2
section
variable {X : Cx} {W : WX} {T : List Nat} {K : PySem.W.Frag}
/-! ### constants of the module, {} -/
theorem se_cint {x : Str} {i : Int} {pos : Pos} (h : ∃ t, X.mg x = some (.int i t)) (hg : Gl X x := by rfl) (hd : (x == ("__debug__" : Str)) = false := by decide) : SE X W T (.Name x pos) (xC (.int i)) := by
  obtain ⟨t, h⟩ := h
  exact se_glob h (v := .int i) ⟨t, rfl⟩ (fun _ => .int i) hg hd
theorem se_cstr {x y : Str} {pos : Pos} (h : ∃ t, X.mg x = some (.str y t)) (hg : Gl X x := by rfl) (hd : (x == ("__debug__" : Str)) = false := by decide) : SE X W T (.Name x pos) (xC (.str y)) := by
  obtain ⟨t, h⟩ := h
  exact se_glob h (v := .str y) ⟨t, rfl⟩ (fun _ => .str y) hg hd
theorem se_dict0 {pos : Pos} : SE X W T (.Dict [] [] pos) (xC (.dct [])) := by
  refine ⟨_, pe_dnewK, fun x Q s p => ?_⟩
  intro q hq
  exact Post.here p (Ext.new s hq) s rfl _ (.dct upd_same .nil)
/-! ### a, b = [], e: lists that are new beside values -/
inductive PIt where | val (d : D) | new (ds : List D)
inductive ItsR (K : PySem.W.Frag) (x y : Cf) : List V → List PIt → List Addr → Prop
  | nil : ItsR K x y [] [] []
  | val {v : V} {d : D} {vs : List V} {is : List PIt} {as : List Addr} : Rep K y.F v d → ItsR K x y vs is as → ItsR K x y (v :: vs) (.val d :: is) as
  | new {p : Addr} {us : List V} {ds : List D} {vs : List V} {is : List PIt} {as : List Addr} : FreshAt K y p us ds → x.H p = none → (∀ i k, ¬ CelAt y i k p) → p ∉ as → ItsR K x y vs is as → ItsR K x y (.ref p :: vs) (.new ds :: is) (p :: as)
def EvP (X : Cx) (W : WX) (T : List Nat) (ta : TA) (f : M (List PIt)) : Prop := ∀ (x : Cf) (Q : List V → Hp → Prop), RSt X.K x → Post X.K X.mg T W x (f x.r) (fun is y => y.s = x.s → ∀ vs as, ItsR X.K x y vs is as → Q vs y.H) → ta x.s x.H Q
structure SP' (X : Cx) (W : WX) (T : List Nat) (es : List Expr) (f : M (List PIt)) : Prop where
  ex : ∃ ta, PA X es ta ∧ EvP X W T ta f
def pVal (a : M D) (r : M (List PIt)) : M (List PIt) := mB a fun d => mB r fun is => mP (.val d :: is)
def pNew (a : M (List D)) (r : M (List PIt)) : M (List PIt) := mB a fun ds => mB r fun is => mP (.new ds :: is)
theorem sp_nil : SP' X W T [] (mP []) := ⟨_, pa_nil, fun x Q s p => p x rfl (Fr.refl T x) s rfl [] [] .nil⟩
theorem ItsR.back {x0 x y : Cf} (h : ∀ p, x.H p = none → x0.H p = none) {vs : List V} {is : List PIt} {as : List Addr} (r : ItsR K x y vs is as) : ItsR K x0 y vs is as := by
  induction r with
  | nil => exact .nil
  | val h1 _ ih => exact .val h1 ih
  | new h1 h2 h3 h4 _ ih => exact .new h1 (h _ h2) h3 h4 ih
theorem ItsR.fresh {x y : Cf} {vs : List V} {is : List PIt} {as : List Addr} (r : ItsR K x y vs is as) : ∀ p ∈ as, x.H p = none := by
  induction r with
  | nil => intro p h; cases h
  | val _ _ ih => exact ih
  | new _ h2 _ _ _ ih =>
    intro p h
    rcases List.mem_cons.mp h with z | z
    · rw [z]; exact h2
    · exact ih p z
theorem EvP.bind {α : Type} {te : TA} {f : M (List PIt)} {k : List PIt → M α} {x : Cf} {Q : List V → Hp → Prop} {Qf : α → Cf → Prop} (h : EvP X W T te f) (s : RSt X.K x) (p : Post X.K X.mg T W x (mB f k x.r) Qf)
    (n : ∀ is y, Fr T x y → RSt X.K y → y.s = x.s → ∀ vs as, ItsR X.K x y vs is as → Post X.K X.mg T W y (k is y.r) Qf → Q vs y.H) : te x.s x.H Q := by
  refine h x Q s ?_
  unfold mB at p
  cases e : f x.r with
  | ok d ρ =>
    simp only [e] at p
    intro y hy fr sy hs vs as hv
    rw [← hy] at p
    exact n d y fr sy hs vs as hv (p.shift fr)
  | exc c pl ρ => simp only [e] at p; exact p
  | bad => simp only [e] at p; exact p
variable {e : Expr} {es : List Expr}
theorem sp_val {fa : M D} {fr : M (List PIt)} (ha : SE X W T e fa) (hr : SP' X W T es fr) (hs : starEach (e :: es) X.env = (false, eval e X.env) :: starEach es X.env := by rfl) : SP' X W T (e :: es) (pVal fa fr) := by
  obtain ⟨ta, pa, ea⟩ := ha.ex
  obtain ⟨tr, pr, er⟩ := hr.ex
  refine ⟨_, pa_cons pa pr hs, fun x Q s p => ?_⟩
  refine ea.bind s p fun d y f1 s1 e1 v hv p1 => ?_
  show tr x.s y.H _
  rw [← e1]
  exact er.bind s1 p1 fun is z f2 s2 e2 vs as hvs p2 => p2 z rfl (Fr.refl T z) s2 (e2.trans e1) (v :: vs) as (.val (hv.mono f2.ff) (hvs.back f1.dm))
theorem sp_new {fa : M (List D)} {fr : M (List PIt)} (ha : SL X W T e fa) (hr : SP' X W T es fr) (hs : starEach (e :: es) X.env = (false, eval e X.env) :: starEach es X.env := by rfl) : SP' X W T (e :: es) (pNew fa fr) := by
  obtain ⟨ta, pa, ea⟩ := ha.ex
  obtain ⟨tr, pr, er⟩ := hr.ex
  refine ⟨_, pa_cons pa pr hs, fun x Q s p => ?_⟩
  refine ea.bind s p fun ds y f1 s1 e1 q us h1 h2 h3 p1 => ?_
  show tr x.s y.H _
  rw [← e1]
  refine er.bind s1 p1 fun is z f2 s2 e2 vs as hvs p2 => ?_
  obtain ⟨g1, g2, g3⟩ := stays f2 h1.1 h1.2.1 h3
  exact p2 z rfl (Fr.refl T z) s2 (e2.trans e1) (.ref q :: vs) (q :: as) (.new ⟨g1, g2, h1.2.2.mono f2.ff⟩ h2 g3 (fun hm => by
    have := hvs.fresh q hm
    rw [h1.1] at this; cases this) (hvs.back f1.dm))
/-- the items into the slots -/
def setIts : List Nat → List PIt → M Unit
  | [], [] => mP ()
  | i :: is, .val d :: r => mB (setv i d) fun _ => setIts is r
  | i :: is, .new ds :: r => mB (setc i .own ds) fun _ => setIts is r
  | _, _ => fun _ => .bad
def setSs (σ : L2.St) : List Nat → List V → L2.St
  | i :: is, v :: vs => setSs (σ.set i (some v)) is vs
  | _, _ => σ
theorem setIts_run {x : Cf} {α : Type} {m : M α} {Q : α → Cf → Prop} : ∀ {js : List Nat} {vs : List V} {is : List PIt} {as : List Addr} {y : Cf}, RSt X.K y → Fr T x y → ItsR X.K x y vs is as → (∀ j ∈ js, j ∈ T) →
    Post X.K X.mg T W x (mB (setIts js is) (fun _ => m) y.r) Q → ∃ z : Cf, z.s = setSs y.s js vs ∧ z.H = y.H ∧ RSt X.K z ∧ Fr T x z ∧ Post X.K X.mg T W x (m z.r) Q ∧ js.length = vs.length
  | [], _, _, _, y, s, f, .nil, hT, p => ⟨y, rfl, rfl, s, f, p, rfl⟩
  | [], _, _, _, y, s, f, .val _ _, hT, p => p.elim
  | [], _, _, _, y, s, f, .new _ _ _ _ _, hT, p => p.elim
  | j :: js, _, _, _, y, s, f, .nil, hT, p => p.elim
  | j :: js, _, _, _, y, s, f, .val (v := v) (d := d) (vs := vs) (is := is) (as := as) h r, hT, p => by
    obtain ⟨f2, s2⟩ := setv_ok (T := T) s h (hT j List.mem_cons_self)
    have p' : Post X.K X.mg T W x (mB (mB (setv j d) fun _ => setIts js is) (fun _ => m) y.r) Q := p
    unfold mB setv at p'
    by_cases c : j < y.r.length
    · simp only [c, if_true] at p'
      have r2 : ItsR X.K x ⟨y.F, y.H, y.s.set j (some v), y.r.set j (.val d)⟩ vs is as := by
        clear p p'
        induction r with
        | nil => exact .nil
        | val h1 _ ih => exact .val h1 ih
        | new h1 h2 h3 h4 _ ih => exact .new h1 h2 (fun i k c => h3 i k (setv_cel c).2) h4 ih
      obtain ⟨z, a1, a2, a3, a4, a5, a6⟩ := setIts_run (js := js) s2 (f.trans f2) r2 (fun i hi => hT i (List.mem_cons_of_mem _ hi)) p'
      exact ⟨z, a1, a2, a3, a4, a5, congrArg (· + 1) a6⟩
    · simp only [c, if_false] at p'
      exact p'.elim
  | j :: js, _, _, _, y, s, f, .new (p := q) (us := us) (ds := ds) (vs := vs) (is := is) (as := as) h1 h2 h3 h4 r, hT, p => by
    obtain ⟨key, s2⟩ := setc_ok (i := j) s h1 h3
    have hj := hT j List.mem_cons_self
    have p' : Post X.K X.mg T W x (mB (mB (setc j .own ds) fun _ => setIts js is) (fun _ => m) y.r) Q := p
    unfold mB setc at p'
    by_cases c : j < y.r.length
    · simp only [c, if_true] at p'
      have f2 : Fr T x ⟨y.F, y.H, y.s.set j (some (.ref q)), y.r.set j (.cel .own ds)⟩ := by
        refine ⟨(List.length_set ..).trans f.ln, f.ff, f.dm, f.nw, f.hp, fun i k a cc => ?_, fun i hi => ?_⟩
        · rcases key i k a cc with ⟨_, a2, a3⟩ | ⟨_, a2⟩
          · exact .inl ⟨a2, by rw [a3]; exact h2⟩
          · exact f.cc i k a a2
        · have ne : j ≠ i := fun z => hi (z ▸ hj)
          obtain ⟨g1, g2⟩ := f.un i hi
          exact ⟨(List.getElem?_set_ne ne).trans g1, (List.getElem?_set_ne ne).trans g2⟩
      have r2 : ItsR X.K x ⟨y.F, y.H, y.s.set j (some (.ref q)), y.r.set j (.cel .own ds)⟩ vs is as := by
        clear p p'
        induction r with
        | nil => exact .nil
        | val h1 _ ih => exact .val h1 (ih h4)
        | new g1 g2 g3 g4 _ ih =>
          refine .new g1 g2 (fun i k c => ?_) g4 (ih fun z => h4 (List.mem_cons_of_mem _ z))
          rcases key i k _ c with ⟨_, _, a3⟩ | ⟨_, a2⟩
          · exact h4 (by rw [← a3]; exact List.mem_cons_self)
          · exact g3 i k a2
      obtain ⟨z, a1, a2, a3, a4, a5, a6⟩ := setIts_run (js := js) s2 f2 r2 (fun i hi => hT i (List.mem_cons_of_mem _ hi)) p'
      exact ⟨z, a1, a2, a3, a4, a5, congrArg (· + 1) a6⟩
    · simp only [c, if_false] at p'
      exact p'.elim
def sParN (js : List Nat) (m : M (List PIt)) : M Fl := mB m fun is => mB (setIts js is) fun _ => mP .nx
theorem ss_parN2 (i j : Nat) {x y : Str} {a b : Expr} {m : M (List PIt)} {px py pt pos : Pos} {kt k2 pt2} (hc : X.calm = true) (hN : X.N.Nodup) (ha : SP' X W T [a, b] m) (hw : swappedStores [.Tuple [.Name x px, .Name y py] kt pt] (.Tuple [a, b] k2 pt2) X.env = pure (some [x, y]))
    (hi : X.N[i]? = some x := by rfl) (hj : X.N[j]? = some y := by rfl) (hij : i ≠ j := by decide) (hx : X.env.scope.names.lookup x = some .local := by rfl) (hy : X.env.scope.names.lookup y = some .local := by rfl) (hT : ∀ l ∈ [i, j], l ∈ T := by decide)
    (hs : swapsWithSole [.Tuple [.Name x px, .Name y py] kt pt] (.Tuple [a, b] k2 pt2) pos.line X.env = pure false := by rfl) : SS X W T (.Assign [.Tuple [.Name x px, .Name y py] kt pt] (.Tuple [a, b] k2 pt2) pos) (sParN [i, j] m) := by
  obtain ⟨ta, pa, ea⟩ := ha.ex
  refine ⟨_, ps_par hc hN hi hj hij hx hy pa hw hs, fun z Dn s p => ?_⟩
  refine ea z _ s ?_
  unfold sParN mB at p
  cases e0 : m z.r with
  | exc c pl ρ => simp only [e0] at p; exact p
  | bad => simp only [e0] at p; exact p
  | ok is ρ =>
    simp only [e0] at p
    intro y hy f1 s1 e1 vs as hv
    rw [← hy] at p
    obtain ⟨w, a1, a2, a3, a4, a5, a6⟩ := setIts_run (m := mP Fl.nx) s1 f1 hv hT p
    match vs, a6 with
    | [v, u], _ =>
      refine ⟨v, u, rfl, ?_⟩
      have h := a5 w rfl a4 a3
      have h' : Dn.nx w.s w.H := h
      rw [a1, a2, e1] at h'
      exact h'
theorem ss_parN3 (i j l : Nat) {x y z : Str} {a b c : Expr} {m : M (List PIt)} {px py pz pt pos : Pos} {kt k2 pt2} (hc : X.calm = true) (hN : X.N.Nodup) (ha : SP' X W T [a, b, c] m) (hw : swappedStores [.Tuple [.Name x px, .Name y py, .Name z pz] kt pt] (.Tuple [a, b, c] k2 pt2) X.env = pure (some [x, y, z]))
    (hi : X.N[i]? = some x := by rfl) (hj : X.N[j]? = some y := by rfl) (hl : X.N[l]? = some z := by rfl) (hij : i ≠ j := by decide) (hil : i ≠ l := by decide) (hjl : j ≠ l := by decide) (hx : X.env.scope.names.lookup x = some .local := by rfl) (hy : X.env.scope.names.lookup y = some .local := by rfl) (hz : X.env.scope.names.lookup z = some .local := by rfl) (hT : ∀ m ∈ [i, j, l], m ∈ T := by decide)
    (hs : swapsWithSole [.Tuple [.Name x px, .Name y py, .Name z pz] kt pt] (.Tuple [a, b, c] k2 pt2) pos.line X.env = pure false := by rfl) : SS X W T (.Assign [.Tuple [.Name x px, .Name y py, .Name z pz] kt pt] (.Tuple [a, b, c] k2 pt2) pos) (sParN [i, j, l] m) := by
  obtain ⟨ta, pa, ea⟩ := ha.ex
  refine ⟨_, ps_par3 hc hN hi hj hl hij hil hjl hx hy hz pa hw hs, fun q Dn s p => ?_⟩
  refine ea q _ s ?_
  unfold sParN mB at p
  cases e0 : m q.r with
  | exc c pl ρ => simp only [e0] at p; exact p
  | bad => simp only [e0] at p; exact p
  | ok is ρ =>
    simp only [e0] at p
    intro y hy f1 s1 e1 vs as hv
    rw [← hy] at p
    obtain ⟨w, a1, a2, a3, a4, a5, a6⟩ := setIts_run (m := mP Fl.nx) s1 f1 hv hT p
    match vs, a6 with
    | [v, u, t], _ =>
      refine ⟨v, u, t, rfl, ?_⟩
      have h := a5 w rfl a4 a3
      have h' : Dn.nx w.s w.H := h
      rw [a1, a2, e1] at h'
      exact h'
/-- a statement behind a list that is frozen from here on -/
theorem ss_frz (j : Nat) {st : Stmt} {m : M Fl} (h : SS X W T st m) (hj : j ∈ T := by decide) : SS X W T st (frz j m) := by
  obtain ⟨te, pe, ev⟩ := h.ex
  refine ⟨te, pe, fun x Q s p => ?_⟩
  obtain ⟨y, e1, e2, f, sy, p1⟩ := frz_run hj s p
  rw [← e1, ← e2]
  exact ev y Q sy (p1.mono fun a z _ _ q => SQ.shift f q)
theorem st_frz (j : Nat) {e : Expr} {m : M Bool} (h : ST X W T e m) (hj : j ∈ T := by decide) : ST X W T e (frz j m) := by
  obtain ⟨te, pe, ev⟩ := h.ex
  refine ⟨te, pe, fun x Q s p => ?_⟩
  obtain ⟨y, e1, e2, f, sy, p1⟩ := frz_run hj s p
  rw [← e1, ← e2]
  exact ev y Q sy (p1.mono fun a z _ _ q hs => q (hs.trans e1))
end
end FL
namespace FL
open PySem PySem.Spec L2
/-! ### the law's call -/
theorem fun_same {K : PySem.W.Frag} {x q : Str} {st : Stmt} {f : Addr} {fd fd' : FuncData} (A : Fun K x q st f fd) (B : Fun K x q st f fd') : fd' = fd := by
  obtain ⟨oc, od, kV, doc, pm, an, cdv, ct, osl, _, h1, _⟩ := A.ex
  obtain ⟨oc', od', kV', doc', pm', an', cdv', ct', osl', _, h2, _⟩ := B.ex
  rw [h1] at h2
  injection h2 with h2
  injection h2 with _ _ h2 _
  injection h2 with h2
  exact h2.symm
/-- what the plain function has to do -/
def Plain (F : List Ent → R D) : Prop := ∀ ns : List Int, ns.length ≤ 63 → (∀ z ∈ ns, Builtin.Int.intBits z ≤ 1048576) → F [.val (.scr (ns.map .int))] = .ok (.bl true) []
def spLaw (K : PySem.W.Frag) : Sp := fun vs H Q _ => ∃ (a : Addr) (ns : List Int), vs = [.ref a] ∧ SqL K H a (ns.map V.int) ∧ ns.length ≤ 63 ∧ (∀ z ∈ ns, Builtin.Int.intBits z ≤ 1048576) ∧ ∀ H', Q (.bl true) H'
theorem rep_ints {K : PySem.W.Frag} {F : Hp} : ∀ ns : List Int, RepL K F (ns.map V.int) (ns.map D.int)
  | [] => .nil
  | z :: ns => .cons (.int z) (rep_ints ns)
theorem law_imp {K : PySem.W.Frag} {mg : Str → Option Value} {F : List Ent → R D} (hF : Plain F) : ∀ vs H Q E, spLaw K vs H Q E → SpF K mg none false 1 F vs H Q E := by
  rintro vs H Q E ⟨a, ns, rfl, hS, hl, hb, hq⟩
  refine ⟨rfl, ⟨H, H, [some (.ref a)], [.val (.scr (ns.map .int))]⟩, rfl, rfl, ⟨Same.refl _, rfl, fun i d h => ?_, fun i k es h => ?_, fun i j k l p h _ => ?_⟩, fun i k p h => ?_, ?_⟩
  · match i, h with
    | 0, h =>
      cases h
      exact ⟨.ref a, rfl, .scr hS (rep_ints ns)⟩
  · match i, h with
    | 0, h => cases h
  · obtain ⟨⟨ds, h⟩, _⟩ := h
    match i, h with
    | 0, h => cases h
  · obtain ⟨⟨ds, h⟩, _⟩ := h
    match i, h with
    | 0, h => cases h
  · show PostF K mg none false _ (F [.val (.scr (ns.map .int))]) Q E
    rw [hF ns hl hb]
    intro y _ _ _ _ v hv
    cases hv
    exact hq _
theorem walkF {l : PySem.W.OpenLaw} {q : Program} {loose : List Str} {k : Nat} {XP : (Str → Option Value) → Heap → Prop} {YP : World → Heap → Prop} {d : DefRec} {K : Params → PySem.W.Frag} (hn : l.most = some 63) (hdf : d.params.defaults = []) (hk : Room k callerA)
    (hY : ∀ (w : World) (h : Heap), YP w h → (K w.params).In h)
    (F : ∀ (w : World) (mg : Str → Option Value) (fa : Addr) (h : Heap), (K w.params).In h → h.Ns mainGlobals mg → mg d.name = some (.ref fa) →
      ∃ fd : FuncData, (∀ (s : Shared) (u : Value), BindsTo s fd ⟨[u], []⟩ [("script", u)]) ∧ ∀ base : Heap, (K w.params).In base → base.Ns mainGlobals mg → FnOk l.prog w (K w.params) mg base (L2.CX l.prog w) k fa fd ["script"] (spLaw (K w.params))) :
    PySem.W.WalkO q loose XP YP l.row.toRowW d [] (fun f vs => PySem.call f vs) :=
  L2.walk_ofB (n := 63) (k := k) (x := "script") (CX := fun w => L2.CX l.prog w) (sp := fun w => spLaw (K w.params)) hn (by decide) hdf hk hY F (fun _ _ a ns hl hb _ hS => ⟨a, ns, rfl, hS, hl, hb, fun _ => rfl⟩) fun w H s e s' z => by
    obtain ⟨_, _, _, _, _, _, _, _, _, _, _, _, z⟩ := z
    exact z
end FL
namespace FL
open PySem PySem.Spec L2
/-! ### plain reasoning -/
def Wp {α : Type} (m : M α) (r : List Ent) (Q : α → List Ent → Prop) : Prop := match m r with
  | .ok a r' => Q a r'
  | _ => False
def WpF (F : List Ent → R D) (es : List Ent) (Q : D → List Ent → Prop) : Prop := match F es with
  | .ok d o => Q d o
  | _ => False
variable {α β : Type} {r : List Ent} {Q : α → List Ent → Prop}
theorem Wp.imp {m : M α} {Q' : α → List Ent → Prop} (h : Wp m r Q) (q : ∀ a r', Q a r' → Q' a r') : Wp m r Q' := by
  unfold Wp at h ⊢
  cases e : m r with
  | ok a r' => rw [e] at h; exact q _ _ h
  | exc c p r' => rw [e] at h; exact h
  | bad => rw [e] at h; exact h
theorem WpF.imp {F : List Ent → R D} {es : List Ent} {Q Q' : D → List Ent → Prop} (h : WpF F es Q) (q : ∀ a r', Q a r' → Q' a r') : WpF F es Q' := by
  unfold WpF at h ⊢
  cases e : F es with
  | ok a r' => rw [e] at h; exact q _ _ h
  | exc c p r' => rw [e] at h; exact h
  | bad => rw [e] at h; exact h
theorem WpF.eq {F : List Ent → R D} {es : List Ent} {d : D} {o : List Ent} (h : WpF F es fun a b => a = d ∧ b = o) : F es = .ok d o := by
  unfold WpF at h
  cases e : F es with
  | ok a r' => rw [e] at h; rw [h.1, h.2]
  | exc c p r' => rw [e] at h; exact h.elim
  | bad => rw [e] at h; exact h.elim
theorem WpF.of {F : List Ent → R D} {es : List Ent} {d : D} {o : List Ent} {Q : D → List Ent → Prop} (h : F es = .ok d o) (q : Q d o) : WpF F es Q := by
  unfold WpF
  rw [h]
  exact q
theorem wp_P {a : α} (q : Q a r) : Wp (mP a) r Q := q
theorem wp_B {m : M β} {f : β → M α} (h : Wp m r fun b r' => Wp (f b) r' Q) : Wp (mB m f) r Q := by
  unfold Wp mB at *
  cases e : m r with
  | ok a r' => rw [e] at h; exact h
  | exc c p r' => rw [e] at h; exact h.elim
  | bad => rw [e] at h; exact h.elim
theorem wp_O {a : α} {o : Option α} (e : o = some a) (q : Q a r) : Wp (mO o) r Q := by subst e; exact q
theorem wp_of {m : M α} {a : α} {r' : List Ent} (e : m r = .ok a r') (q : Q a r') : Wp m r Q := by unfold Wp; rw [e]; exact q
section
variable {Q : D → List Ent → Prop} {a b c m : M D} {i j : Nat} {d e : D}
theorem wp_var (h : r[i]? = some (.val d)) (q : Q d r) : Wp (xVar i) r Q := by unfold Wp xVar; rw [h]; exact q
theorem wp_C (q : Q d r) : Wp (xC d) r Q := q
theorem wp_2 {op : D → D → Option D} (h : Wp a r fun d r1 => Wp b r1 fun e r2 => Wp (mO (op d e)) r2 Q) : Wp (x2 op a b) r Q := wp_B (h.imp fun _ _ h => wp_B h)
theorem wp_1 {op : D → Option D} (h : Wp a r fun d r1 => Wp (mO (op d)) r1 Q) : Wp (x1 op a) r Q := wp_B h
theorem wp_xB {o : List D → Option D} {m : M (List D)} (h : Wp m r fun ds r1 => Wp (mO (o ds)) r1 Q) : Wp (xB o m) r Q := wp_B h
theorem wp_lB {o : List D → Option (List D)} {m : M (List D)} {Q : List D → List Ent → Prop} (h : Wp m r fun ds r1 => Wp (mO (o ds)) r1 Q) : Wp (lB o m) r Q := wp_B h
theorem wp_iOf {o : List D → Option (List D)} {m : M (List D)} {Q : List D → List Ent → Prop} (h : Wp m r fun ds r1 => Wp (mO (o ds)) r1 Q) : Wp (iOf o m) r Q := wp_B h
theorem wp_iRow {Q : List D → List Ent → Prop} (h : Wp m r fun d r1 => Wp (mO (rowD d)) r1 Q) : Wp (iRow m) r Q := wp_B h
theorem wp_cons {m : M (List D)} {Q : List D → List Ent → Prop} (h : Wp a r fun d r1 => Wp m r1 fun ds r2 => Q (d :: ds) r2) : Wp (dCons a m) r Q := wp_B (h.imp fun _ _ h => wp_B h)
theorem wp_tup {m : M (List D)} (h : Wp m r fun ds r1 => ds.length ≤ most ∧ Q (.tup ds) r1) : Wp (xTup m) r Q := wp_B (h.imp fun ds _ h => by
  show Wp (if decide (ds.length ≤ most) then mP (.tup ds) else fun _ => .bad) _ Q
  rw [if_pos (decide_eq_true h.1)]
  exact h.2)
theorem wp_lst {m : M (List D)} {Q : List D → List Ent → Prop} (h : Wp m r fun ds r1 => ds.length ≤ most ∧ Q ds r1) : Wp (lLst m) r Q := wp_B (h.imp fun ds _ h => by
  show Wp (if decide (ds.length ≤ most) then mP ds else fun _ => .bad) _ Q
  rw [if_pos (decide_eq_true h.1)]
  exact h.2)
theorem wp_fz {m : M (List D)} (h : Wp m r fun ds r1 => Q (.lst ds) r1) : Wp (xFz m) r Q := wp_B h
theorem wp_oInt {Q : Option Int → List Ent → Prop} (h : Wp m r fun d r1 => ∃ i, d = .int i ∧ Q (some i) r1) : Wp (oInt m) r Q := wp_B (h.imp fun d _ ⟨i, e, q⟩ => by subst e; exact q)
theorem wp_cut {lo hi : M (Option Int)} (h : Wp a r fun d r1 => Wp lo r1 fun l r2 => Wp hi r2 fun h r3 => Wp (mO (cutD d l h)) r3 Q) : Wp (xCut a lo hi) r Q := wp_B (h.imp fun _ _ h => wp_B (h.imp fun _ _ h => wp_B h))
theorem wp_xT {Q : Bool → List Ent → Prop} (h : Wp m r fun d r1 => ∃ k, d = .bl k ∧ Q k r1) : Wp (mT m) r Q := wp_B (h.imp fun d _ ⟨i, e, q⟩ => by subst e; exact q)
theorem wp_tru {Q : Bool → List Ent → Prop} (h : Wp m r fun d r1 => ∃ k, truB d = some k ∧ Q k r1) : Wp (mTru m) r Q := wp_B (h.imp fun d _ ⟨i, e, q⟩ => wp_O e q)
theorem wp_and (h : Wp a r fun d r1 => ∃ k, truB d = some k ∧ (k = true → Wp b r1 Q) ∧ (k = false → Q d r1)) : Wp (xAnd a b) r Q := wp_B (h.imp fun d _ ⟨k, e, h1, h2⟩ => wp_B (wp_O e (by
  cases k with
  | true => exact h1 rfl
  | false => exact h2 rfl)))
theorem wp_or (h : Wp a r fun d r1 => ∃ k, truB d = some k ∧ (k = false → Wp b r1 Q) ∧ (k = true → Q d r1)) : Wp (xOr a b) r Q := wp_B (h.imp fun d _ ⟨k, e, h1, h2⟩ => wp_B (wp_O e (by
  cases k with
  | true => exact h2 rfl
  | false => exact h1 rfl)))
theorem wp_not (h : Wp a r fun d r1 => ∃ k, truB d = some k ∧ Q (.bl (!k)) r1) : Wp (xNot a) r Q := wp_B (h.imp fun d _ ⟨k, e, h1⟩ => wp_B (wp_O e h1))
theorem wp_tAnd {a b : M Bool} {Q : Bool → List Ent → Prop} (h : Wp a r fun k r1 => (k = true → Wp b r1 Q) ∧ (k = false → Q false r1)) : Wp (tAndM a b) r Q := wp_B (h.imp fun k _ ⟨h1, h2⟩ => by
  cases k with
  | true => exact h1 rfl
  | false => exact h2 rfl)
theorem wp_tOr {a b : M Bool} {Q : Bool → List Ent → Prop} (h : Wp a r fun k r1 => (k = false → Wp b r1 Q) ∧ (k = true → Q true r1)) : Wp (tOrM a b) r Q := wp_B (h.imp fun k _ ⟨h1, h2⟩ => by
  cases k with
  | true => exact h2 rfl
  | false => exact h1 rfl)
theorem wp_tNot {a : M Bool} {Q : Bool → List Ent → Prop} (h : Wp a r fun k r1 => Q (!k) r1) : Wp (tNotM a) r Q := wp_B h
theorem wp_xIf {c : M Bool} (h : Wp c r fun k r1 => (k = true → Wp a r1 Q) ∧ (k = false → Wp b r1 Q)) : Wp (xIf c a b) r Q := wp_B (h.imp fun k _ ⟨h1, h2⟩ => by
  cases k with
  | true => exact h1 rfl
  | false => exact h2 rfl)
theorem wp_chain {o o' : D → D → Option D} (h : Wp a r fun d r1 => Wp b r1 fun e r2 => ∃ k, o d e = some (.bl k) ∧ (k = true → Wp c r2 fun g r3 => Wp (mO (o' e g)) r3 Q) ∧ (k = false → Q (.bl false) r2)) : Wp (xChain o o' a b c) r Q :=
  wp_B (h.imp fun _ _ h => wp_B (h.imp fun _ _ ⟨k, e, h1, h2⟩ => wp_B (wp_O e (by
    cases k with
    | true => exact wp_B (h1 rfl)
    | false => exact h2 rfl))))
/-! statements -/
theorem wp_seq {f g : M Fl} {Q : Fl → List Ent → Prop} (h : Wp f r fun fl r1 => (fl = .nx → Wp g r1 Q) ∧ (fl ≠ .nx → Q fl r1)) : Wp (sSeq f g) r Q := wp_B (h.imp fun fl _ ⟨h1, h2⟩ => by
  cases fl with
  | nx => exact h1 rfl
  | _ => exact h2 (fun z => nomatch z))
theorem wp_sIf {c : M Bool} {a b : M Fl} {Q : Fl → List Ent → Prop} (h : Wp c r fun k r1 => (k = true → Wp a r1 Q) ∧ (k = false → Wp b r1 Q)) : Wp (sIf c a b) r Q := wp_B (h.imp fun k _ ⟨h1, h2⟩ => by
  cases k with
  | true => exact h1 rfl
  | false => exact h2 rfl)
theorem wp_ret {Q : Fl → List Ent → Prop} (h : Wp m r fun d r1 => Q (.rt d) r1) : Wp (sRet m) r Q := wp_B h
theorem wp_retL {m : M (List D)} {Q : Fl → List Ent → Prop} (h : Wp m r fun d r1 => Q (.rtL d) r1) : Wp (sRetL m) r Q := wp_B h
theorem wp_retC {ds : List D} {Q : Fl → List Ent → Prop} (h : r[i]? = some (.cel .own ds)) (q : Q (.rtL ds) r) : Wp (sRetC i) r Q := by unfold Wp sRetC; rw [h]; exact q
theorem wp_expr {Q : Fl → List Ent → Prop} (h : Wp m r fun d r1 => Q .nx r1) : Wp (sExpr m) r Q := wp_B h
theorem wp_setv {Q : Unit → List Ent → Prop} (h : i < r.length) (q : Q () (r.set i (.val d))) : Wp (setv i d) r Q := by unfold Wp setv; rw [if_pos h]; exact q
theorem wp_setc {k : CK} {ds : List D} {Q : Unit → List Ent → Prop} (h : i < r.length) (q : Q () (r.set i (.cel k ds))) : Wp (setc i k ds) r Q := by unfold Wp setc; rw [if_pos h]; exact q
theorem wp_set {Q : Fl → List Ent → Prop} (h : Wp m r fun d r1 => i < r1.length ∧ Q .nx (r1.set i (.val d))) : Wp (sSet i m) r Q := wp_B (h.imp fun _ _ ⟨h1, h2⟩ => wp_B (wp_setv h1 h2))
theorem wp_setL {m : M (List D)} {Q : Fl → List Ent → Prop} (h : Wp m r fun ds r1 => i < r1.length ∧ Q .nx (r1.set i (.cel .own ds))) : Wp (sSetL i m) r Q := wp_B (h.imp fun _ _ ⟨h1, h2⟩ => wp_B (wp_setc h1 h2))
theorem wp_asg {g : D → M Unit} {Q : Fl → List Ent → Prop} (h : Wp m r fun d r1 => Wp (g d) r1 fun _ r2 => Q .nx r2) : Wp (sAsg m g) r Q := wp_B (h.imp fun _ _ h => wp_B h)
theorem wp_gsTup {n : Nat} {ds : List D} {g : List D → M Unit} {Q : Unit → List Ent → Prop} (h : ds.length = n) (q : Wp (g ds) r Q) : Wp (gsTup n g (.tup ds)) r Q := by
  show Wp (if ds.length = n then g ds else fun _ => .bad) r Q
  rw [if_pos h]
  exact q
theorem wp_gsCons {f : D → M Unit} {g : List D → M Unit} {ds : List D} {Q : Unit → List Ent → Prop} (h : Wp (f d) r fun _ r1 => Wp (g ds) r1 Q) : Wp (gsCons f g (d :: ds)) r Q := wp_B h
theorem wp_gsNil {Q : Unit → List Ent → Prop} (h : Q () r) : Wp (gsNil []) r Q := h
theorem wp_gsSub {ix : M D} {Q : Unit → List Ent → Prop} (h : Wp ix r fun i r1 => ∃ k ds es, r1[j]? = some (.cel k ds) ∧ setIx d i ds = some es ∧ Q () (r1.set j (.cel k es))) (hc : ∃ k ds, r[j]? = some (.cel k ds)) : Wp (gsSub j ix d) r Q := by
  obtain ⟨k, ds, hc⟩ := hc
  refine wp_B (wp_of (a := ()) (r' := r) (by unfold hasC; rw [hc]) ?_)
  refine wp_B (h.imp fun i r1 ⟨k, ds, es, e1, e2, q⟩ => wp_B (wp_of (a := ()) (r' := r1.set j (.cel k es)) (by unfold updc; rw [e1]; simp only; rw [e2]) q))
theorem wp_app {Q : Fl → List Ent → Prop} (hc : ∃ k ds, r[j]? = some (.cel k ds)) (h : Wp m r fun d r1 => ∃ k ds, r1[j]? = some (.cel k ds) ∧ ds.length < most ∧ Q .nx (r1.set j (.cel k (ds ++ [d])))) : Wp (sApp j m) r Q := by
  obtain ⟨k, ds, hc⟩ := hc
  refine wp_B (wp_of (a := ()) (r' := r) (by unfold hasC; rw [hc]) ?_)
  refine wp_B (h.imp fun d r1 ⟨k, ds, e1, e2, q⟩ => wp_B (wp_of (a := ()) (r' := r1.set j (.cel k (ds ++ [d]))) (by unfold updc appC; rw [e1]; simp only; rw [if_pos (decide_eq_true e2)]) q))
theorem wp_par2 {m : M (List D)} {Q : Fl → List Ent → Prop} (h : Wp m r fun ds r1 => ∃ d e, ds = [d, e] ∧ i < r1.length ∧ j < r1.length ∧ Q .nx ((r1.set i (.val d)).set j (.val e))) : Wp (sPar2 i j m) r Q := wp_B (h.imp fun ds r1 ⟨d, e, q, h1, h2, h3⟩ => by
  subst q
  exact wp_B (wp_setv h1 (wp_B (wp_setv (by rw [List.length_set]; exact h2) h3))))
theorem wp_par3 {l : Nat} {m : M (List D)} {Q : Fl → List Ent → Prop} (h : Wp m r fun ds r1 => ∃ d e g, ds = [d, e, g] ∧ i < r1.length ∧ j < r1.length ∧ l < r1.length ∧ Q .nx (((r1.set i (.val d)).set j (.val e)).set l (.val g))) : Wp (sPar3 i j l m) r Q := wp_B (h.imp fun ds r1 ⟨d, e, g, q, h1, h2, h3, h4⟩ => by
  subst q
  exact wp_B (wp_setv h1 (wp_B (wp_setv (by rw [List.length_set]; exact h2) (wp_B (wp_setv (by rw [List.length_set, List.length_set]; exact h3) h4))))))
theorem wp_parN {js : List Nat} {m : M (List PIt)} {Q : Fl → List Ent → Prop} (h : Wp m r fun is r1 => Wp (setIts js is) r1 fun _ r2 => Q .nx r2) : Wp (sParN js m) r Q := wp_B (h.imp fun _ _ h => wp_B h)
theorem wp_pVal {m : M (List PIt)} {Q : List PIt → List Ent → Prop} (h : Wp a r fun d r1 => Wp m r1 fun ds r2 => Q (.val d :: ds) r2) : Wp (pVal a m) r Q := wp_B (h.imp fun _ _ h => wp_B h)
theorem wp_pNew {a : M (List D)} {m : M (List PIt)} {Q : List PIt → List Ent → Prop} (h : Wp a r fun d r1 => Wp m r1 fun ds r2 => Q (.new d :: ds) r2) : Wp (pNew a m) r Q := wp_B (h.imp fun _ _ h => wp_B h)
theorem wp_its0 {Q : Unit → List Ent → Prop} (h : Q () r) : Wp (setIts [] []) r Q := h
theorem wp_itsV {is : List Nat} {l : List PIt} {Q : Unit → List Ent → Prop} (h1 : i < r.length) (h : Wp (setIts is l) (r.set i (.val d)) Q) : Wp (setIts (i :: is) (.val d :: l)) r Q := wp_B (wp_setv h1 h)
theorem wp_itsN {is : List Nat} {ds : List D} {l : List PIt} {Q : Unit → List Ent → Prop} (h1 : i < r.length) (h : Wp (setIts is l) (r.set i (.cel .own ds)) Q) : Wp (setIts (i :: is) (.new ds :: l)) r Q := wp_B (wp_setc h1 h)
/-- a walk, by an invariant -/
theorem wp_forD {g : D → M Unit} {b : M Fl} {Q : Fl → List Ent → Prop} (I : List D → List Ent → Prop) (step : ∀ d ds r, I (d :: ds) r → Wp (g d) r fun _ r1 => Wp b r1 fun fl r2 => (fl = .nx ∨ fl = .co → I ds r2) ∧ (fl = .br → Q .nx r2) ∧ (∀ d, fl = .rt d → Q (.rt d) r2) ∧ ∀ ds, fl = .rtL ds → Q (.rtL ds) r2)
    (fin : ∀ r, I [] r → Q .nx r) : ∀ (ds : List D) (r : List Ent), I ds r → Wp (forD g b ds) r Q
  | [], r, h => fin r h
  | d :: ds, r, h => wp_B ((step d ds r h).imp fun _ r1 h1 => wp_B (h1.imp fun fl r2 ⟨h2, h3, h4, h5⟩ => by
    cases fl with
    | nx => exact wp_forD I step fin ds r2 (h2 (.inl rfl))
    | co => exact wp_forD I step fin ds r2 (h2 (.inr rfl))
    | br => exact h3 rfl
    | rt d => exact h4 d rfl
    | rtL ds => exact h5 ds rfl))
theorem wp_for {it : M (List D)} {g : D → M Unit} {b : M Fl} {Q : Fl → List Ent → Prop} (h : Wp it r fun ds r1 => Wp (forD g b ds) r1 Q) : Wp (sFor it g b) r Q := wp_B h
theorem wp_while1 {c : M Bool} {b : M Fl} {n : Nat} {Q : Fl → List Ent → Prop} (h : Wp c r fun k r1 => (k = true → Wp b r1 fun fl r2 => (fl = .nx ∨ fl = .co → Wp (whileD c b n) r2 Q) ∧ (fl = .br → Q .nx r2) ∧ (∀ d, fl = .rt d → Q (.rt d) r2) ∧ ∀ ds, fl = .rtL ds → Q (.rtL ds) r2) ∧ (k = false → Q .nx r1)) : Wp (whileD c b (n + 1)) r Q :=
  wp_B (h.imp fun k r1 ⟨h1, h2⟩ => by
    cases k with
    | false => exact h2 rfl
    | true => exact wp_B ((h1 rfl).imp fun fl r2 ⟨h3, h4, h5, h6⟩ => by
      cases fl with
      | nx => exact h3 (.inl rfl)
      | co => exact h3 (.inr rfl)
      | br => exact h4 rfl
      | rt d => exact h5 d rfl
      | rtL ds => exact h6 ds rfl))
/-! calls -/
theorem wp_callD {np : Nat} {F : List Ent → R D} {m : M (List D)} (h : Wp m r fun ds r1 => ds.length = np ∧ WpF F (valsOf ds) fun d _ => Q d r1) : Wp (callD np F m) r Q := wp_B (h.imp fun ds r1 ⟨h1, h2⟩ => by
  unfold Wp WpF at *
  simp only [h1, if_true]
  cases e : F (valsOf ds) with
  | ok a o => rw [e] at h2; exact h2
  | exc c p o => rw [e] at h2; exact h2
  | bad => rw [e] at h2; exact h2)
theorem wp_callL {np : Nat} {F : List Ent → R D} {m : M (List D)} {Q : List D → List Ent → Prop} (h : Wp m r fun ds r1 => ds.length = np ∧ WpF F (valsOf ds) fun d _ => ∃ es, d = .lst es ∧ Q es r1) : Wp (callL np F m) r Q := wp_B (h.imp fun ds r1 ⟨h1, h2⟩ => by
  unfold Wp WpF at *
  simp only [h1, if_true]
  cases e : F (valsOf ds) with
  | ok a o => rw [e] at h2; obtain ⟨es, rfl, q⟩ := h2; exact q
  | exc c p o => rw [e] at h2; exact h2
  | bad => rw [e] at h2; exact h2)
theorem wp_callKw {np n : Nat} {ix : List Nat} {F : List Ent → R D} {m : M (List D)} (h : Wp m r fun ds r1 => ds.length = n ∧ (ordL ix ds).length = np ∧ WpF F (valsOf (ordL ix ds)) fun d _ => Q d r1) : Wp (callKw np n ix F m) r Q := wp_B (h.imp fun ds r1 ⟨h1, h2, h3⟩ => by
  unfold Wp WpF at *
  simp only [h1, h2, and_self, decide_true, if_true]
  cases e : F (valsOf (ordL ix ds)) with
  | ok a o => rw [e] at h3; exact h3
  | exc c p o => rw [e] at h3; exact h3
  | bad => rw [e] at h3; exact h3)
theorem wp_callP {np : Nat} {v : Str} {F : List Ent → R D} {m : M (List D)} (h0 : r[i]? = some (.val (.dfn v))) (h : Wp m r fun ds r1 => ds.length = np ∧ WpF F (valsOf ds) fun d _ => Q d r1) : Wp (callP i v np F m) r Q := by
  refine wp_B (wp_of (a := ()) (r' := r) (by unfold isDef; rw [h0]; simp) ?_)
  exact wp_callD h
theorem wp_late {m : M (List Arg)} {Q : List Arg → List Ent → Prop} (hc : ∃ k ds, r[j]? = some (.cel k ds)) (h : Wp m r fun as r1 => Q (.late j :: as) r1) : Wp (aLate j m) r Q := by
  obtain ⟨k, ds, hc⟩ := hc
  exact wp_B (wp_of (a := ()) (r' := r) (by unfold hasS; rw [hc]) (wp_B h))
theorem wp_aVal {m : M (List Arg)} {Q : List Arg → List Ent → Prop} (h : Wp a r fun d r1 => Wp m r1 fun as r2 => Q (.val d :: as) r2) : Wp (aVal a m) r Q := wp_B (h.imp fun _ _ h => wp_B h)
theorem wp_callI {np n : Nat} {T : List Nat} {F : List Ent → R D} {m : M (List Arg)} (h : Wp m r fun as r1 => ∃ pre j post k ds, splitA as = some (pre, j, post) ∧ (as.length = np ∧ pre.length = n ∧ j ∈ T) ∧ r1[j]? = some (.cel k ds) ∧ WpF F (ioArgs pre ds post) fun d o => ∃ es, o = [.cel .io es] ∧ Q d (r1.set j (.cel k es))) : Wp (callI np n T F m) r Q :=
  wp_B (h.imp fun as r1 ⟨pre, j, post, k, ds, h1, h2, h3, h4⟩ => by
    unfold WpF at h4
    unfold Wp
    rw [h1]
    simp only
    rw [if_pos (decide_eq_true h2), h3]
    simp only
    cases e : F (ioArgs pre ds post) with
    | ok a o => rw [e] at h4; obtain ⟨es, rfl, q⟩ := h4; exact q
    | exc c p o => rw [e] at h4; exact h4.elim
    | bad => rw [e] at h4; exact h4.elim)
/-- a list of one's own, read -/
theorem wp_lend {α : Type} {T : List Nat} {ok : α → Bool} {m : M α} {Q : α → List Ent → Prop} {k : CK} {ds : List D} (h0 : r[j]? = some (.cel k ds)) (h : Wp m (r.set j (.val (.lst ds))) fun a r1 => (ok a && okT T r1) = true ∧ Q a (r1.set j (.cel k ds))) : Wp (lend T j ok m) r Q := by
  unfold Wp at *
  unfold lend
  rw [h0]
  simp only
  cases e : m (r.set j (.val (.lst ds))) with
  | ok a o => rw [e] at h; simp only [h.1, if_true]; exact h.2
  | exc c p o => rw [e] at h; exact h.elim
  | bad => rw [e] at h; exact h.elim
theorem wp_frz {α : Type} {m : M α} {Q : α → List Ent → Prop} {ds : List D} (h0 : r[j]? = some (.cel .own ds)) (h : Wp m (r.set j (.val (.lst ds))) Q) : Wp (frz j m) r Q := by
  unfold Wp at *
  unfold frz
  rw [h0]
  exact h
/-- a def -/
theorem wp_def {n : Nat} {b : M Fl} {es : List Ent} {Q : D → List Ent → Prop} (h : Wp b (es ++ List.replicate (n - es.length) .no) fun fl _ => (fl = .nx ∧ Q .non []) ∨ ∃ d, fl = .rt d ∧ Q d []) : WpF (defF none false n b) es Q := by
  unfold Wp at h
  unfold WpF defF
  cases e : b (es ++ List.replicate (n - es.length) .no) with
  | ok fl r => rw [e] at h; rcases h with ⟨rfl, q⟩ | ⟨d, rfl, q⟩ <;> exact q
  | exc c p r => rw [e] at h; exact h
  | bad => rw [e] at h; exact h
theorem wp_defL {n : Nat} {b : M Fl} {es : List Ent} {Q : D → List Ent → Prop} (h : Wp b (es ++ List.replicate (n - es.length) .no) fun fl _ => ∃ ds, fl = .rtL ds ∧ Q (.lst ds) []) : WpF (defF none true n b) es Q := by
  unfold Wp at h
  unfold WpF defF
  cases e : b (es ++ List.replicate (n - es.length) .no) with
  | ok fl r => rw [e] at h; obtain ⟨d, rfl, q⟩ := h; exact q
  | exc c p r => rw [e] at h; exact h
  | bad => rw [e] at h; exact h
theorem wp_defI {n i : Nat} {b : M Fl} {es : List Ent} {Q : D → List Ent → Prop} (h : Wp b (es ++ List.replicate (n - es.length) .no) fun fl r => ∃ ds, r[i]? = some (.cel .io ds) ∧ ((fl = .nx ∧ Q .non [.cel .io ds]) ∨ ∃ d, fl = .rt d ∧ Q d [.cel .io ds])) : WpF (defF (some i) false n b) es Q := by
  unfold Wp at h
  unfold WpF defF
  cases e : b (es ++ List.replicate (n - es.length) .no) with
  | ok fl r =>
    rw [e] at h
    obtain ⟨ds, h1, h⟩ := h
    simp only [outs, h1]
    rcases h with ⟨rfl, q⟩ | ⟨d, rfl, q⟩ <;> exact q
  | exc c p r => rw [e] at h; exact h.elim
  | bad => rw [e] at h; exact h.elim
/-- a comprehension that changes nothing: p what is let, f what is made -/
theorem wp_compD {vs : List Nat} {g : D → M Unit} {t : M Bool} {e : M D} {r0 : List Ent} (p : D → Bool) (f : D → D) : ∀ (ds acc : List D) (Q : List D → List Ent → Prop),
    (∀ d ∈ ds, Wp (g d) r0 fun _ r1 => Wp t r1 fun k r2 => k = p d ∧ (k = true → Wp e r2 fun y r3 => y = f d ∧ wipeE r3 vs = r0) ∧ (k = false → wipeE r2 vs = r0)) → acc.length + ds.length ≤ most → Q (acc ++ (ds.filter p).map f) r0 → Wp (compD vs g t e ds acc) r0 Q
  | [], acc, Q, _, _, q => by
    rw [List.filter_nil, List.map_nil, List.append_nil] at q
    exact q
  | d :: ds, acc, Q, h, hl, q => by
    have h1 := h d (List.mem_cons_self ..)
    have hl' : acc.length + ds.length + 1 ≤ most := by rw [List.length_cons] at hl; omega
    have nx : ∀ {α : Type} {m : M α} {r : List Ent} {Q : α → List Ent → Prop}, Wp m r Q → Wp (noX m) r Q := fun {α m r Q} h => by
      unfold Wp at *
      unfold noX
      cases e : m r with
      | ok a o => rw [e] at h; exact h
      | exc c p o => rw [e] at h; exact h.elim
      | bad => rw [e] at h; exact h.elim
    refine wp_B (nx (h1.imp fun _ r1 h2 => wp_B (nx (h2.imp fun k r2 ⟨h3, h4, h5⟩ => ?_))))
    rw [List.filter_cons] at q
    cases k with
    | true =>
      refine wp_B (nx ((h4 rfl).imp fun y r3 ⟨h6, h7⟩ => ?_))
      rw [← h3] at q
      simp only [if_true, List.map_cons] at q
      have h8 : decide (acc.length < most) = true := decide_eq_true (by omega)
      show Wp (fun r => if decide (acc.length < most) then compD vs g t e ds (acc ++ [y]) (wipeE r vs) else .bad) r3 Q
      unfold Wp
      simp only [h8, if_true, h7]
      have := wp_compD p f ds (acc ++ [f d]) Q (fun d hd => h d (List.mem_cons_of_mem _ hd)) (by rw [List.length_append, List.length_singleton]; omega) (by rw [List.append_assoc]; exact q)
      rw [h6]
      exact this
    | false =>
      rw [← h3] at q
      have := wp_compD p f ds acc Q (fun d hd => h d (List.mem_cons_of_mem _ hd)) (by omega) q
      show Wp (fun r => compD vs g t e ds acc (wipeE r vs)) r2 Q
      unfold Wp
      simp only [h5 rfl]
      exact this
theorem wp_comp {vs : List Nat} {it : M (List D)} {g : D → M Unit} {t : M Bool} {e : M D} {Q : List D → List Ent → Prop} (p : D → Bool) (f : D → D)
    (h : Wp it r fun ds r1 => noCel vs r1 = true ∧ ds.length ≤ most ∧ (∀ d ∈ ds, Wp (g d) (wipeE r1 vs) fun _ r2 => Wp t r2 fun k r3 => k = p d ∧ (k = true → Wp e r3 fun y r4 => y = f d ∧ wipeE r4 vs = wipeE r1 vs) ∧ (k = false → wipeE r3 vs = wipeE r1 vs)) ∧ Q ((ds.filter p).map f) (putBack r1 (wipeE r1 vs) vs)) : Wp (lComp vs it g t e) r Q :=
  wp_B (h.imp fun ds r1 ⟨h1, h2, h3, h4⟩ => by
    have := wp_compD (vs := vs) p f ds [] (fun a r2 => Q a (putBack r1 r2 vs)) h3 (by simpa using h2) h4
    unfold Wp at *
    simp only [h1, if_true]
    cases q : compD vs g t e ds [] (wipeE r1 vs) with
    | ok a o => rw [q] at this; exact this
    | exc c p o => rw [q] at this; exact this.elim
    | bad => rw [q] at this; exact this.elim)
end
end FL
namespace FL
open PySem PySem.Spec L2
/-! ### plain facts of the built-ins -/
def hasTy (d : D) : Bool := (tyN d).isSome
def isIntD : D → Bool
  | .int _ => true
  | _ => false
def isBlD : D → Bool
  | .bl _ => true
  | _ => false
def isTupD : D → Bool
  | .tup _ => true
  | _ => false
def isStrD : D → Bool
  | .str _ => true
  | _ => false
def isLstD : D → Bool
  | .lst _ => true
  | _ => false
theorem isB_of {d : D} {n : String} {p : D → Bool} (h : hasTy d = true) (k1 : kitB "NoneType" n = some (p .non)) (k2 : ∀ b, d = .bl b → kitB "bool" n = some (p d)) (k3 : ∀ i, d = .int i → kitB "int" n = some (p d)) (k4 : ∀ x, d = .str x → kitB "str" n = some (p d))
    (k5 : ∀ ds, d = .tup ds → kitB "tuple" n = some (p d)) (k6 : ∀ ds, d = .lst ds → kitB "list" n = some (p d)) (k7 : ∀ ds, d = .dct ds → kitB "dict" n = some (p d)) : isB [d, .opq (.ty n)] = some (.bl (p d)) := by
  unfold isB
  simp only
  cases d with
  | non => show (kitB "NoneType" n).map D.bl = _; rw [k1]; rfl
  | bl b => show (kitB "bool" n).map D.bl = _; rw [k2 b rfl]; rfl
  | int b => show (kitB "int" n).map D.bl = _; rw [k3 b rfl]; rfl
  | str b => show (kitB "str" n).map D.bl = _; rw [k4 b rfl]; rfl
  | tup b => show (kitB "tuple" n).map D.bl = _; rw [k5 b rfl]; rfl
  | lst b => show (kitB "list" n).map D.bl = _; rw [k6 b rfl]; rfl
  | dct b => show (kitB "dict" n).map D.bl = _; rw [k7 b rfl]; rfl
  | scr b => cases h
  | opq b => cases h
  | dfn b => cases h
theorem isB_int {d : D} (h : hasTy d = true) : isB [d, .opq (.ty "int")] = some (.bl (isIntD d || isBlD d)) :=
  isB_of (p := fun d => isIntD d || isBlD d) h (by decide +kernel) (fun _ e => by subst e; exact (show kitB "bool" "int" = some true by decide +kernel)) (fun _ e => by subst e; exact (show kitB "int" "int" = some true by decide +kernel)) (fun _ e => by subst e; exact (show kitB "str" "int" = some false by decide +kernel)) (fun _ e => by subst e; exact (show kitB "tuple" "int" = some false by decide +kernel)) (fun _ e => by subst e; exact (show kitB "list" "int" = some false by decide +kernel)) (fun _ e => by subst e; exact (show kitB "dict" "int" = some false by decide +kernel))
theorem isB_bool {d : D} (h : hasTy d = true) : isB [d, .opq (.ty "bool")] = some (.bl (isBlD d)) :=
  isB_of (p := isBlD) h (by decide +kernel) (fun _ e => by subst e; exact (show kitB "bool" "bool" = some true by decide +kernel)) (fun _ e => by subst e; exact (show kitB "int" "bool" = some false by decide +kernel)) (fun _ e => by subst e; exact (show kitB "str" "bool" = some false by decide +kernel)) (fun _ e => by subst e; exact (show kitB "tuple" "bool" = some false by decide +kernel)) (fun _ e => by subst e; exact (show kitB "list" "bool" = some false by decide +kernel)) (fun _ e => by subst e; exact (show kitB "dict" "bool" = some false by decide +kernel))
theorem isB_tup {d : D} (h : hasTy d = true) : isB [d, .opq (.ty "tuple")] = some (.bl (isTupD d)) :=
  isB_of (p := isTupD) h (by decide +kernel) (fun _ e => by subst e; exact (show kitB "bool" "tuple" = some false by decide +kernel)) (fun _ e => by subst e; exact (show kitB "int" "tuple" = some false by decide +kernel)) (fun _ e => by subst e; exact (show kitB "str" "tuple" = some false by decide +kernel)) (fun _ e => by subst e; exact (show kitB "tuple" "tuple" = some true by decide +kernel)) (fun _ e => by subst e; exact (show kitB "list" "tuple" = some false by decide +kernel)) (fun _ e => by subst e; exact (show kitB "dict" "tuple" = some false by decide +kernel))
theorem isB_str {d : D} (h : hasTy d = true) : isB [d, .opq (.ty "str")] = some (.bl (isStrD d)) :=
  isB_of (p := isStrD) h (by decide +kernel) (fun _ e => by subst e; exact (show kitB "bool" "str" = some false by decide +kernel)) (fun _ e => by subst e; exact (show kitB "int" "str" = some false by decide +kernel)) (fun _ e => by subst e; exact (show kitB "str" "str" = some true by decide +kernel)) (fun _ e => by subst e; exact (show kitB "tuple" "str" = some false by decide +kernel)) (fun _ e => by subst e; exact (show kitB "list" "str" = some false by decide +kernel)) (fun _ e => by subst e; exact (show kitB "dict" "str" = some false by decide +kernel))
theorem eq_int (i j : Int) : eqD (.int i) (.int j) = some (.bl (decide (i = j))) := by
  show some (D.bl (PyData.eqv (.int i) (.int j))) = _
  congr 2
  first | rfl | (simp [PyData.eqv]; done) | skip
theorem ne_int (i j : Int) : neD (.int i) (.int j) = some (.bl (!decide (i = j))) := by
  have := eq_int i j
  unfold eqD at this
  unfold neD
  cases e : eqB (.int i) (.int j) with
  | none => rw [e] at this; cases this
  | some b => rw [e] at this; injection this with this; injection this with this; rw [this]; rfl
theorem eq_bl (i j : Bool) : eqD (.bl i) (.bl j) = some (.bl (i == j)) := by cases i <;> cases j <;> rfl
theorem bits_lt {i : Int} {n : Nat} (h : i.natAbs < 2 ^ n) : bitsOf i ≤ n + 1 := by
  unfold bitsOf
  by_cases z : i.natAbs = 0
  · rw [z]; simp
  · have := (Nat.log2_lt z).mpr h
    omega
theorem mul_ok {i j : Int} (h1 : i.natAbs < 2 ^ 4096) (h2 : j.natAbs < 2 ^ 4096) : mulD (.int i) (.int j) = some (.int (i * j)) := by
  have a := bits_lt h1
  have b := bits_lt h2
  unfold mulD mulOk
  simp only
  rw [if_pos (decide_eq_true (by omega))]
/-- for omega's bounds -/
theorem small (i : Int) (h : i.natAbs < 2 ^ 64) : i.natAbs < 2 ^ 4096 := Nat.lt_of_lt_of_le h (Nat.pow_le_pow_right (by decide) (by decide))
end FL
namespace FL
open PySem PySem.Spec L2
theorem br_t {A B : Prop} (h : A) : (true = true → A) ∧ (true = false → B) := ⟨fun _ => h, fun e => (nomatch e)⟩
theorem br_f {A B : Prop} (h : B) : (false = true → A) ∧ (false = false → B) := ⟨fun e => (nomatch e), fun _ => h⟩
theorem br_t' {A B : Prop} (h : A) : (true = false → B) ∧ (true = true → A) := ⟨fun e => (nomatch e), fun _ => h⟩
theorem br_f' {A B : Prop} (h : B) : (false = false → B) ∧ (false = true → A) := ⟨fun _ => h, fun e => (nomatch e)⟩
theorem br_d {p : Prop} [Decidable p] {A B : Prop} (h1 : p → A) (h2 : ¬p → B) : (decide p = true → A) ∧ (decide p = false → B) := ⟨fun e => h1 (of_decide_eq_true e), fun e => h2 (of_decide_eq_false e)⟩
theorem br_d' {p : Prop} [Decidable p] {A B : Prop} (h1 : ¬p → A) (h2 : p → B) : (decide p = false → A) ∧ (decide p = true → B) := ⟨fun e => h1 (of_decide_eq_false e), fun e => h2 (of_decide_eq_true e)⟩
theorem br_n {k : Bool} {A B : Prop} (h : (k = false → A) ∧ (k = true → B)) : ((!k) = true → A) ∧ ((!k) = false → B) := ⟨fun e => h.1 (by cases k <;> first | rfl | cases e), fun e => h.2 (by cases k <;> first | rfl | cases e)⟩
theorem br_n' {k : Bool} {A B : Prop} (h : (k = true → A) ∧ (k = false → B)) : ((!k) = false → A) ∧ ((!k) = true → B) := ⟨fun e => h.1 (by cases k <;> first | rfl | cases e), fun e => h.2 (by cases k <;> first | rfl | cases e)⟩
theorem fl_nx {A B : Prop} (h : A) : (Fl.nx = .nx → A) ∧ (Fl.nx ≠ .nx → B) := ⟨fun _ => h, fun e => (e rfl).elim⟩
theorem fl_rt {d : D} {A B : Prop} (h : B) : (Fl.rt d = .nx → A) ∧ (Fl.rt d ≠ .nx → B) := ⟨fun e => (nomatch e), fun _ => h⟩
theorem fl_rtL {d : List D} {A B : Prop} (h : B) : (Fl.rtL d = .nx → A) ∧ (Fl.rtL d ≠ .nx → B) := ⟨fun e => (nomatch e), fun _ => h⟩
theorem fl_br {A B : Prop} (h : B) : (Fl.br = .nx → A) ∧ (Fl.br ≠ .nx → B) := ⟨fun e => (nomatch e), fun _ => h⟩
theorem fl_co {A B : Prop} (h : B) : (Fl.co = .nx → A) ∧ (Fl.co ≠ .nx → B) := ⟨fun e => (nomatch e), fun _ => h⟩
theorem en_rt {d : D} {Q : D → List Ent → Prop} (h : Q d []) : (Fl.rt d = .nx ∧ Q .non []) ∨ ∃ e, Fl.rt d = .rt e ∧ Q e [] := .inr ⟨d, rfl, h⟩
theorem en_nx {Q : D → List Ent → Prop} (h : Q .non []) : (Fl.nx = .nx ∧ Q .non []) ∨ ∃ e, Fl.nx = .rt e ∧ Q e [] := .inl ⟨rfl, h⟩
theorem en_rtL {d : List D} {Q : D → List Ent → Prop} (h : Q (.lst d) []) : ∃ ds, Fl.rtL d = .rtL ds ∧ Q (.lst ds) [] := ⟨d, rfl, h⟩
theorem en_rtI {i : Nat} {r : List Ent} {ds : List D} {d : D} {Q : D → List Ent → Prop} (e : r[i]? = some (.cel .io ds)) (h : Q d [.cel .io ds]) : ∃ ds, r[i]? = some (.cel .io ds) ∧ ((Fl.rt d = .nx ∧ Q .non [.cel .io ds]) ∨ ∃ e, Fl.rt d = .rt e ∧ Q e [.cel .io ds]) := ⟨ds, e, .inr ⟨d, rfl, h⟩⟩
theorem it_nx {A B : Prop} {C : D → Prop} {E : List D → Prop} (h : A) : (Fl.nx = .nx ∨ Fl.nx = .co → A) ∧ (Fl.nx = .br → B) ∧ (∀ d, Fl.nx = .rt d → C d) ∧ ∀ ds, Fl.nx = .rtL ds → E ds := ⟨fun _ => h, fun e => (nomatch e), fun _ e => (nomatch e), fun _ e => (nomatch e)⟩
theorem it_co {A B : Prop} {C : D → Prop} {E : List D → Prop} (h : A) : (Fl.co = .nx ∨ Fl.co = .co → A) ∧ (Fl.co = .br → B) ∧ (∀ d, Fl.co = .rt d → C d) ∧ ∀ ds, Fl.co = .rtL ds → E ds := ⟨fun _ => h, fun e => (nomatch e), fun _ e => (nomatch e), fun _ e => (nomatch e)⟩
theorem it_br {A B : Prop} {C : D → Prop} {E : List D → Prop} (h : B) : (Fl.br = .nx ∨ Fl.br = .co → A) ∧ (Fl.br = .br → B) ∧ (∀ d, Fl.br = .rt d → C d) ∧ ∀ ds, Fl.br = .rtL ds → E ds := ⟨fun e => e.elim (fun z => (nomatch z)) (fun z => (nomatch z)), fun _ => h, fun _ e => (nomatch e), fun _ e => (nomatch e)⟩
theorem it_rt {d : D} {A B : Prop} {C : D → Prop} {E : List D → Prop} (h : C d) : (Fl.rt d = .nx ∨ Fl.rt d = .co → A) ∧ (Fl.rt d = .br → B) ∧ (∀ e, Fl.rt d = .rt e → C e) ∧ ∀ ds, Fl.rt d = .rtL ds → E ds := ⟨fun e => e.elim (fun z => (nomatch z)) (fun z => (nomatch z)), fun e => (nomatch e), fun _ e => by cases e; exact h, fun _ e => (nomatch e)⟩
theorem ex_bl {k : Bool} {P : Bool → Prop} (h : P k) : ∃ j, D.bl k = .bl j ∧ P j := ⟨k, rfl, h⟩
theorem ex_int {k : Int} {P : Int → Prop} (h : P k) : ∃ j, D.int k = .int j ∧ P j := ⟨k, rfl, h⟩
end FL
namespace FL
theorem ex_so {α : Type} {o : Option α} {k : α} {P : α → Prop} (e : o = some k) (q : P k) : ∃ j, o = some j ∧ P j := ⟨k, e, q⟩
theorem ex_sb {o : Option D} {k : Bool} {P : Bool → Prop} (e : o = some (.bl k)) (q : P k) : ∃ j, o = some (.bl j) ∧ P j := ⟨k, e, q⟩
theorem ex_sub {o : Option Ent} {k : CK} {ds es : List D} {f : List D → Option (List D)} {P : CK → List D → Prop} (e : o = some (.cel k ds)) (e2 : f ds = some es) (q : P k es) : ∃ k ds es, o = some (.cel k ds) ∧ f ds = some es ∧ P k es := ⟨k, ds, es, e, e2, q⟩
theorem ex_app {o : Option Ent} {k : CK} {ds : List D} {P : CK → List D → Prop} (e : o = some (.cel k ds)) (e2 : ds.length < most) (q : P k ds) : ∃ k ds, o = some (.cel k ds) ∧ ds.length < most ∧ P k ds := ⟨k, ds, e, e2, q⟩
theorem ex_p2 {a b : D} {A B : Prop} {P : D → D → Prop} (h1 : A) (h2 : B) (q : P a b) : ∃ d e, [a, b] = [d, e] ∧ A ∧ B ∧ P d e := ⟨a, b, rfl, h1, h2, q⟩
theorem ex_p3 {a b c : D} {A B C : Prop} {P : D → D → D → Prop} (h1 : A) (h2 : B) (h3 : C) (q : P a b c) : ∃ d e g, [a, b, c] = [d, e, g] ∧ A ∧ B ∧ C ∧ P d e g := ⟨a, b, c, rfl, h1, h2, h3, q⟩
theorem ex_call {pre post : List D} {j np n : Nat} {T : List Nat} {as : List Arg} {o : Option Ent} {k : CK} {ds : List D} {P : List D → Nat → List D → CK → List D → Prop} (h1 : splitA as = some (pre, j, post)) (h2 : as.length = np ∧ pre.length = n ∧ j ∈ T) (h3 : o = some (.cel k ds)) (q : P pre j post k ds) : True := trivial
end FL
namespace FL
open PySem PySem.Spec L2
theorem mod_ok {i j : Int} (h : 0 < j) : modD (.int i) (.int j) = some (.int (i % j)) := by
  unfold modD
  simp only
  rw [if_pos (decide_eq_true h)]
theorem div_ok {i j : Int} (h : 0 < j) (h2 : j.natAbs < 2 ^ 4096) : divD (.int i) (.int j) = some (.int (i / j)) := by
  have a := bits_lt h2
  unfold divD divOk
  simp only
  rw [if_pos (decide_eq_true ⟨h, by omega⟩)]
theorem dm_ok {i j : Int} (h : 0 < j) (h2 : j < 1073741824) : dmB [.int i, .int j] = some (.tup [.int (i / j), .int (i % j)]) := by
  unfold dmB
  simp only
  rw [if_pos (decide_eq_true ⟨h, h2⟩)]
end FL
namespace FL
open PySem PySem.Spec L2
theorem wp_lend' {α : Type} {T : List Nat} {ok : α → Bool} {m : M α} {r : List Ent} {Q : α → List Ent → Prop} {j : Nat} {k : CK} {ds : List D} (h0 : r[j]? = some (.cel k ds)) (h : Wp m (r.set j (.val (.lst ds))) fun a r1 => r1 = r.set j (.val (.lst ds)) ∧ (ok a && okT T r1) = true ∧ Q a r) : Wp (lend T j ok m) r Q := by
  refine wp_lend h0 (h.imp fun a r1 ⟨e, h1, h2⟩ => ⟨h1, ?_⟩)
  rw [e, List.set_set]
  have : r.set j (.cel k ds) = r := by
    apply List.ext_getElem?
    intro i
    rw [List.getElem?_set]
    split
    · rename_i hij
      subst hij
      rw [h0, if_pos (List.getElem?_eq_some_iff.mp h0).1]
    · rfl
  rw [this]
  exact h2
end FL
namespace FL
open PySem PySem.Spec L2
theorem wp_forc {g : D → M Unit} {b : M Fl} {d : D} {ds : List D} {r : List Ent} {Q : Fl → List Ent → Prop} (h : Wp (g d) r fun _ r1 => Wp b r1 fun fl r2 => (fl = .nx ∨ fl = .co → Wp (forD g b ds) r2 Q) ∧ (fl = .br → Q .nx r2) ∧ (∀ d, fl = .rt d → Q (.rt d) r2) ∧ ∀ ds, fl = .rtL ds → Q (.rtL ds) r2) : Wp (forD g b (d :: ds)) r Q :=
  wp_B (h.imp fun _ r1 h1 => wp_B (h1.imp fun fl r2 ⟨h2, h3, h4, h5⟩ => by
    cases fl with
    | nx => exact h2 (.inl rfl)
    | co => exact h2 (.inr rfl)
    | br => exact h3 rfl
    | rt d => exact h4 d rfl
    | rtL ds => exact h5 ds rfl))
theorem wp_forn {g : D → M Unit} {b : M Fl} {r : List Ent} {Q : Fl → List Ent → Prop} (h : Q .nx r) : Wp (forD g b []) r Q := h
theorem ix_nat {ds : List D} {i : Int} {x : D} (h0 : 0 ≤ i) (h : ds[i.toNat]? = some x) : ixD (.tup ds) (.int i) = some x := by
  have := atI_nat h
  rw [Int.toNat_of_nonneg h0] at this
  exact this
theorem ix_natL {ds : List D} {i : Int} {x : D} (h0 : 0 ≤ i) (h : ds[i.toNat]? = some x) : ixD (.lst ds) (.int i) = some x := by
  have := atI_nat h
  rw [Int.toNat_of_nonneg h0] at this
  exact this
theorem set_nat {ds : List D} {d : D} {i : Int} (h0 : 0 ≤ i) (h : i.toNat < ds.length) : setIx d (.int i) ds = some (ds.set i.toNat d) := by
  show (L2.ixN ds.length i).map _ = _
  unfold L2.ixN
  rw [if_pos h0, if_pos (by omega)]
  rfl
end FL
namespace FL
open PySem PySem.Spec L2
theorem wp_forN {g : D → M Unit} {b : M Fl} {Q : Fl → List Ent → Prop} (I : List D → List Ent → Prop) (step : ∀ d ds r, I (d :: ds) r → Wp (g d) r fun _ r1 => Wp b r1 fun fl r2 => (fl = .nx ∨ fl = .co) ∧ I ds r2) (ds : List D) (r : List Ent) (h : I ds r)
    (fin : ∀ r, I [] r → Q .nx r) : Wp (forD g b ds) r Q :=
  wp_forD I (fun d ds r h => (step d ds r h).imp fun _ r1 h1 => h1.imp fun fl r2 ⟨h2, h3⟩ => by
    rcases h2 with rfl | rfl
    · exact it_nx h3
    · exact it_co h3) fin ds r h
theorem in_nx {A : Prop} (h : A) : (Fl.nx = .nx ∨ Fl.nx = .co) ∧ A := ⟨.inl rfl, h⟩
theorem in_co {A : Prop} (h : A) : (Fl.co = .nx ∨ Fl.co = .co) ∧ A := ⟨.inr rfl, h⟩
end FL
namespace FL
open PySem PySem.Spec L2
theorem str_ok {i : Int} (h : i.natAbs < 2 ^ 64) : strB [.int i] = some (.str (toString i)) := by
  have a := bits_lt h
  unfold bitsOf at a
  unfold strB
  simp only
  rw [if_pos (decide_eq_true (by omega))]
theorem mul_tup {a : List D} {k : Int} (h : a ≠ []) (h1 : 2 ≤ k) (h2 : k ≤ 1000) (h3 : a.length ≤ 1000) : mulD (.tup a) (.int k) = some (.tup (timesL a k.toNat)) := by
  unfold mulD
  simp only
  rw [if_pos (decide_eq_true ⟨h, h1, h2, h3⟩)]
theorem times_mem {a : List D} {k : Nat} {x : D} (h : x ∈ timesL a k) : x ∈ a := by
  unfold timesL at h
  obtain ⟨l, h1, h2⟩ := List.mem_flatten.mp h
  rw [(List.mem_replicate.mp h1).2] at h2
  exact h2
end FL
namespace FL
open PySem PySem.Spec L2
section
variable {X : Cx} {W : WX} {T : List Nat} {K : PySem.W.Frag} {x : Str} {e : Expr} {es : List Expr} {p pos : Pos}
/-! ### what is never reached -/
def sBad : M Fl := fun _ => .bad
def xBad : M D := fun _ => .bad
theorem ss_bad {st : Stmt} : SS X W T st sBad := ⟨⟨fun _ _ _ => False, ⟨fun _ _ _ _ _ _ h => h.elim⟩, fun _ _ _ p => p⟩⟩
theorem se_bad {e : Expr} : SE X W T e xBad := ⟨⟨fun _ _ _ => False, ⟨fun _ _ _ _ _ _ h => h.elim⟩, fun _ _ _ p => p⟩⟩
/-- a def of which nothing is promised -/
def fBad : List Ent → R D := fun _ => .bad
theorem bad_ok {P : Program} {w : World} {K : PySem.W.Frag} {mg : Str → Option Value} {base : Heap} {x : Str} {st : Stmt} {ps : List Str} {k : Nat} {io : Option Nat} {fr : Bool} (hd : ∃ f fd, mg x = some (.ref f) ∧ Fun K x x st f fd ∧ Binds K fd ps []) : DefOk P w K mg base x st ps k io fr fBad := by
  obtain ⟨f, fd, hm, Fn, hb⟩ := hd
  refine ⟨f, fd, hm, Fn.kp, Fn, ⟨fun vs H Q E h => h.1, fun A outer s H args us vs Q E _ _ _ _ h => ?_⟩, hb⟩
  obtain ⟨_, z, _, _, _, _, hp⟩ := h
  exact (show False from hp).elim
/-! ### isinstance of several types -/
def kitAnyB (m : String) : List String → Option Bool
  | [] => some false
  | n :: ns => match kitB m n with
    | some true => some true
    | some false => kitAnyB m ns
    | none => none
def isTB (ns : List String) (d : D) : Option D := match tyN d with
  | some m => (kitAnyB m ns).map .bl
  | none => none
def xIsT (ns : List String) (m : M D) : M D := mB m fun d => mO (isTB ns d)
theorem kitAny_of {K : PySem.W.Frag} {m : String} : ∀ {ns : List String} {b : Bool}, kitAnyB m ns = some b → PySem.W.kitAny K (.type m) (ns.map Value.type) = some b
  | [], b, h => by cases h; rfl
  | n :: ns, b, h => by
    unfold kitAnyB at h
    cases q : kitB m n with
    | none => rw [q] at h; cases h
    | some c =>
      rw [q] at h
      cases c with
      | true => cases h; exact kitAny_cons (kit_ty q) (fun z => nomatch z) (fun _ => rfl)
      | false => exact kitAny_cons (kit_ty q) (fun _ => kitAny_of h) (fun z => nomatch z)
theorem rep_tys {F : Hp} : ∀ {ns : List String} {vs : List V}, RepL K F vs (ns.map fun n => D.opq (.ty n)) → vs = ns.map V.ty
  | [], _, .nil => rfl
  | n :: ns, _, .cons h r => by
    cases h
    rw [rep_tys r]
    rfl
theorem cls_tys : ∀ ns : List String, Paired ClsV (ns.map V.ty) (ns.map Value.type)
  | [] => .nil
  | n :: ns => .cons (.ty n) (cls_tys ns)
theorem se_isT (ns : List String) {tes : List Expr} {x1 : _} {tp : Pos} {f : M D} (hm : X.mg "isinstance" = none) (ha : SE X W T e f) (ht : SD X W T tes (mP (ns.map fun n => D.opq (.ty n)))) (hl : decide (ns.length ≤ most) = true) (hv : bootBuiltins "isinstance" = some (.builtin "isinstance")) (hg : Gl X "isinstance" := by rfl)
    (h1 : starEach (e :: [Expr.Tuple tes x1 tp]) X.env = (false, eval e X.env) :: starEach [Expr.Tuple tes x1 tp] X.env := by rfl) (h2 : starEach (Expr.Tuple tes x1 tp :: []) X.env = (false, eval (Expr.Tuple tes x1 tp) X.env) :: starEach [] X.env := by rfl)
    (hpl : (backTo pos (starEach [Expr.Tuple tes x1 tp] X.env)).any (·.1) = false := by rfl) : SE X W T (.Call (.Name "isinstance" p) [e, .Tuple tes x1 tp] [] pos) (xIsT ns f) := by
  obtain ⟨te, pe, ev⟩ := ha.ex
  obtain ⟨tt, pt, et⟩ := ht.ex
  refine ⟨_, pe_callB call_isiT hg hm hv (pa_cons pe (pa_cons (pe_tup pt) pa_nil h2) h1) (by decide) (by decide) h1 hpl, fun x Q s p => ?_⟩
  refine ev.bind s p fun d y f1 s1 e1 v hv p1 => ?_
  show tt x.s y.H _
  rw [← e1]
  refine et y _ s1 ?_
  intro y2 hy2 f2 s2 e2 vs hvs
  have evs := rep_tys hvs
  subst evs
  refine ⟨by rw [List.length_map]; exact of_most hl, fun q hq => ?_⟩
  obtain ⟨g1, g2⟩ := ext_tup (ds := ns.map fun n => D.opq (.ty n)) s2 hq hvs
  cases c : isTB ns d with
  | none => rw [c] at p1; exact p1.elim
  | some z =>
    rw [c] at p1
    unfold isTB at c
    split at c
    · rename_i m hm
      cases c2 : kitAnyB m ns with
      | none => rw [c2] at c; cases c
      | some b =>
        rw [c2] at c
        cases c
        refine ⟨v, q, ns.map V.ty, .type m, ns.map Value.type, b, rfl, upd_same, cls_tys ns, tyX_of (g1.rst s2).sub ((hv.mono f2.ff).mono g1.ff) hm, kitAny_of c2, ?_⟩
        exact p1 _ (g1.r.trans hy2) (f2.trans (g1.fr T)) (g1.rst s2) (g1.s.trans (e2.trans e1)) _ (.bl b)
    · cases c
end
end FL
namespace FL
open PySem PySem.Spec L2
/-! ### fractions -/
def fr (q : Rat) : D := .tup [.int q.num, .int q.den]
def fracB : D → Bool
  | .tup [.int n, .int m] => decide (0 < m) && decide (Nat.gcd n.natAbs m.natAbs = 1)
  | _ => false
theorem fracB_fr (q : Rat) : fracB (fr q) = true := by
  show (decide (0 < (q.den : Int)) && decide (Nat.gcd q.num.natAbs (q.den : Int).natAbs = 1)) = true
  rw [decide_eq_true (show 0 < (q.den : Int) from by have := q.den_pos; omega), Int.natAbs_natCast, decide_eq_true (show Nat.gcd q.num.natAbs q.den = 1 from q.reduced)]
  rfl
theorem fr_of {d : D} (h : fracB d = true) : ∃ q, d = fr q := by
  unfold fracB at h
  split at h
  · rename_i n m
    simp only [Bool.and_eq_true, decide_eq_true_eq] at h
    obtain ⟨h1, h2⟩ := h
    refine ⟨⟨n, m.toNat, by omega, ?_⟩, ?_⟩
    · rw [Nat.Coprime, ← h2]
      congr 1
      omega
    · unfold fr
      show D.tup [.int n, .int m] = .tup [.int n, .int (m.toNat : Int)]
      rw [Int.toNat_of_nonneg (by omega)]
  · cases h
/-- what is shortened -/
theorem part_fr {n m : Int} (h : 0 < m) : D.tup [.int (n / (Nat.gcd n.natAbs m.natAbs : Nat)), .int (m / (Nat.gcd n.natAbs m.natAbs : Nat))] = fr (Rat.divInt n m) := by
  unfold fr
  rw [Rat.num_divInt, Rat.den_divInt, if_neg (by omega), Int.sign_eq_one_of_pos h, Int.one_mul]
  have e : m.gcd n = Nat.gcd n.natAbs m.natAbs := by unfold Int.gcd; exact Nat.gcd_comm ..
  rw [e]
  congr 3
  have : (m.natAbs : Int) = m := by omega
  rw [← this, Int.natAbs_natCast, Int.natCast_ediv]
theorem den_le {n m : Int} (h : 0 < m) : ((Rat.divInt n m).den : Int) ≤ m := by
  rw [Rat.den_divInt, if_neg (by omega)]
  have := Nat.div_le_self m.natAbs (m.gcd n)
  omega
theorem add_fr (a b : Rat) : Rat.divInt (a.num * b.den + b.num * a.den) (a.den * b.den) = a + b := by
  rw [Rat.add_def', ← Rat.divInt_ofNat, Int.natCast_mul]
theorem sub_fr (a b : Rat) : Rat.divInt (a.num * b.den - b.num * a.den) (a.den * b.den) = a - b := by
  rw [Rat.sub_def', ← Rat.divInt_ofNat, Int.natCast_mul]
theorem mul_fr (a b : Rat) : Rat.divInt (a.num * b.num) (a.den * b.den) = a * b := by
  rw [Rat.mul_def', ← Rat.divInt_ofNat, Int.natCast_mul]
/-- Euclid's steps: room for 2 k + 1 where the second is below 2 ^ k -/
theorem half_mod {a b : Int} (h0 : 0 ≤ a) (h : 0 < b) (hb : b ≤ a) : 2 * (a % b) ≤ a := by
  have h1 := Int.emod_lt_of_pos a h
  have h2 := Int.emod_nonneg a (show b ≠ 0 by omega)
  have h3 := Int.mul_ediv_add_emod a b
  have h4 : 1 ≤ a / b := by
    have := Int.ediv_le_ediv h hb
    rw [Int.ediv_self (by omega)] at this
    exact this
  have h5 : b * 1 ≤ b * (a / b) := Int.mul_le_mul_of_nonneg_left h4 (by omega)
  omega
end FL
namespace FL
def Btw (lo hi : Int) (q : Rat) : Prop := lo * q.den ≤ q.num ∧ q.num ≤ hi * q.den
theorem cross {n m : Int} (h : 0 < m) : (Rat.divInt n m).num * m = n * (Rat.divInt n m).den := by
  have h1 := Rat.num_divInt_den (Rat.divInt n m)
  have d := (Rat.divInt n m).den_pos
  exact (Rat.divInt_eq_divInt_iff (by omega) (by omega)).mp h1
theorem btw_div {lo hi n m : Int} (h : 0 < m) (h1 : lo * m ≤ n) (h2 : n ≤ hi * m) : Btw lo hi (Rat.divInt n m) := by
  have c := cross (n := n) h
  have d := (Rat.divInt n m).den_pos
  unfold Btw
  generalize (Rat.divInt n m).num = a at *
  generalize (Rat.divInt n m).den = b at *
  have d' : (0 : Int) < b := by omega
  constructor
  · have : lo * b * m ≤ a * m := by
      rw [c, show lo * b * m = lo * m * b by rw [Int.mul_assoc, Int.mul_comm (b : Int) m, ← Int.mul_assoc]]
      exact Int.mul_le_mul_of_nonneg_right h1 (by omega)
    exact Int.le_of_mul_le_mul_right this h
  · have : a * m ≤ hi * b * m := by
      rw [c, show hi * b * m = hi * m * b by rw [Int.mul_assoc, Int.mul_comm (b : Int) m, ← Int.mul_assoc]]
      exact Int.mul_le_mul_of_nonneg_right h2 (by omega)
    exact Int.le_of_mul_le_mul_right this h
theorem btw_rat {lo hi : Int} {q : Rat} : Btw lo hi q ↔ ((lo : Rat) ≤ q ∧ q ≤ (hi : Rat)) := by
  unfold Btw
  rw [Rat.le_iff, Rat.le_iff]
  show _ ↔ (lo * (q.den : Int) ≤ q.num * ((1 : Nat) : Int) ∧ q.num * ((1 : Nat) : Int) ≤ hi * (q.den : Int))
  omega
/-- a share of the way between two -/
theorem btw_mix {lo hi : Int} {a b t : Rat} (ha : Btw lo hi a) (hb : Btw lo hi b) (t0 : 0 ≤ t) (t1 : t ≤ 1) : Btw lo hi (a + t * (b - a)) := by
  rw [btw_rat] at *
  have u0 : 0 ≤ 1 - t := by grind
  have h1 := Rat.mul_le_mul_of_nonneg_left ha.1 u0
  have h2 := Rat.mul_le_mul_of_nonneg_left hb.1 t0
  have h3 := Rat.mul_le_mul_of_nonneg_left ha.2 u0
  have h4 := Rat.mul_le_mul_of_nonneg_left hb.2 t0
  constructor <;> grind
end FL
namespace FL
open PySem PySem.Spec L2
theorem wp_noX {α : Type} {m : M α} {r : List Ent} {Q : α → List Ent → Prop} (h : Wp m r Q) : Wp (noX m) r Q := by
  unfold Wp at *
  unfold noX
  cases e : m r with
  | ok a o => rw [e] at h; exact h
  | exc c p o => rw [e] at h; exact h.elim
  | bad => rw [e] at h; exact h.elim
/-- a comprehension, by an invariant: what is left, what is made, the state -/
theorem wp_compJD {vs : List Nat} {g : D → M Unit} {t : M Bool} {e : M D} (J : List D → List D → List Ent → Prop) (step : ∀ d ds acc r, J (d :: ds) acc r → Wp (g d) r fun _ r1 => Wp t r1 fun k r2 => (k = true → Wp e r2 fun y r3 => J ds (acc ++ [y]) (wipeE r3 vs)) ∧ (k = false → J ds acc (wipeE r2 vs))) :
    ∀ (ds acc : List D) (r : List Ent) (Q : List D → List Ent → Prop), J ds acc r → acc.length + ds.length ≤ most → (∀ acc r, J [] acc r → Q acc r) → Wp (compD vs g t e ds acc) r Q
  | [], acc, r, Q, h, _, q => q acc r h
  | d :: ds, acc, r, Q, h, hl, q => by
    rw [List.length_cons] at hl
    refine wp_B (wp_noX ((step d ds acc r h).imp fun _ r1 h2 => wp_B (wp_noX (h2.imp fun k r2 ⟨h4, h5⟩ => ?_))))
    cases k with
    | true =>
      refine wp_B (wp_noX ((h4 rfl).imp fun y r3 h6 => ?_))
      have h8 : decide (acc.length < most) = true := decide_eq_true (by omega)
      show Wp (fun r => if decide (acc.length < most) then compD vs g t e ds (acc ++ [y]) (wipeE r vs) else .bad) r3 Q
      unfold Wp
      simp only [h8, if_true]
      exact wp_compJD J step ds (acc ++ [y]) _ Q h6 (by rw [List.length_append, List.length_singleton]; omega) q
    | false =>
      show Wp (fun r => compD vs g t e ds acc (wipeE r vs)) r2 Q
      unfold Wp
      exact wp_compJD J step ds acc _ Q (h5 rfl) (by omega) q
theorem wp_compJ {vs : List Nat} {it : M (List D)} {g : D → M Unit} {t : M Bool} {e : M D} {r : List Ent} {Q : List D → List Ent → Prop} (J : List D → List D → List Ent → Prop)
    (h : Wp it r fun ds r1 => noCel vs r1 = true ∧ ds.length ≤ most ∧ J ds [] (wipeE r1 vs) ∧ (∀ d ds acc r, J (d :: ds) acc r → Wp (g d) r fun _ r1 => Wp t r1 fun k r2 => (k = true → Wp e r2 fun y r3 => J ds (acc ++ [y]) (wipeE r3 vs)) ∧ (k = false → J ds acc (wipeE r2 vs))) ∧ ∀ acc r2, J [] acc r2 → Q acc (putBack r1 r2 vs)) : Wp (lComp vs it g t e) r Q :=
  wp_B (h.imp fun ds r1 ⟨h1, h2, h3, h4, h5⟩ => by
    have := wp_compJD (vs := vs) (g := g) (t := t) (e := e) J h4 ds [] (wipeE r1 vs) (fun a r2 => Q a (putBack r1 r2 vs)) h3 (by simpa using h2) h5
    unfold Wp at *
    simp only [h1, if_true]
    cases q : compD vs g t e ds [] (wipeE r1 vs) with
    | ok a o => rw [q] at this; exact this
    | exc c p o => rw [q] at this; exact this.elim
    | bad => rw [q] at this; exact this.elim)
end FL
namespace FL
open PySem PySem.Spec L2
section
variable {X : Cx} {W : WX} {T : List Nat}
/-! ### a constant of the text that is a tuple -/
theorem se_ctup {x : Str} {d : D} {pos : Pos} (h : ∃ a, X.mg x = some (.ref a) ∧ ∀ F, Rep X.K F (.ref a) d) (hg : Gl X x := by rfl) (hd : (x == ("__debug__" : Str)) = false := by decide) : SE X W T (.Name x pos) (xC d) := by
  obtain ⟨a, h, k⟩ := h
  exact se_glob h (v := .ref a) rfl (fun _ => k _) hg hd
theorem rep_tup {K : PySem.W.Frag} {a : Addr} {dd : Option Addr} {us : List Value} {n : Nat} {sl : Array (Option Value)} {vs : List V} {ds : List D} (h : K.lookup a = some ⟨.type "tuple", dd, .seq us.toArray n, sl⟩) (hl : us.length ≤ 1000) (hv : Vals vs us) (hr : ∀ F, RepL K F vs ds) (F : Hp) : Rep K F (.ref a) (.tup ds) :=
  .tup (.inr ⟨_, _, _, h, rfl, rfl, Nat.le_trans (by simpa using hl) (by decide), by simpa using hv⟩) (hr F)
theorem vals_cons {v : V} {u : Value} {vs : List V} {us : List Value} (h : RelV v u) (r : Vals vs us) : Vals (v :: vs) (u :: us) := .cons h r
theorem rel_int (i : Int) (t : Tok) : RelV (.int i) (.int i t) := ⟨t, rfl⟩
theorem rel_str (x : Str) (t : Tok) : RelV (.str x) (.str x t) := ⟨t, rfl⟩
end
end FL
namespace FL
open PySem PySem.Spec L2
section
variable {X : Cx} {W : WX} {T : List Nat} {K : PySem.W.Frag}
/-! ### is True, is False -/
def isBD : D → D → Option D
  | .bl a, .bl b => some (.bl (decide (a = b)))
  | _, _ => none
def notBD : D → D → Option D
  | .bl a, .bl b => some (.bl (!decide (a = b)))
  | _, _ => none
theorem opd_isB : OpD K rIsB isBD := by
  intro x v u d e z Q s hv hu q k
  cases d <;> cases e <;> simp [isBD] at q
  subst q
  cases hv
  cases hu
  exact ⟨_, _, rfl, rfl, k x _ (Ext.refl s) (.bl _)⟩
theorem opd_notB : OpD K rNotB notBD := by
  intro x v u d e z Q s hv hu q k
  cases d <;> cases e <;> simp [notBD] at q
  subst q
  cases hv
  cases hu
  exact ⟨_, _, rfl, rfl, k x _ (Ext.refl s) (.bl _)⟩
theorem se_isB {a b : Expr} {pos : Pos} {fa fb : M D} (ha : SE X W T a fa) (hb : SE X W T b fb) : SE X W T (.Compare a [.Is] [b] pos) (x2 isBD fa fb) := se_cmp op_isBl opd_isB ha hb (nomark _)
theorem se_notB {a b : Expr} {pos : Pos} {fa fb : M D} (ha : SE X W T a fa) (hb : SE X W T b fb) : SE X W T (.Compare a [.IsNot] [b] pos) (x2 notBD fa fb) := se_cmp op_notBl opd_notB ha hb (nomark _)
theorem st_isB {a b : Expr} {pos : Pos} {fa fb : M D} (ha : SE X W T a fa) (hb : SE X W T b fb) : ST X W T (.Compare a [.Is] [b] pos) (mT (x2 isBD fa fb)) := st_cmp op_isBl opd_isB ha hb (nomark _)
theorem st_notB {a b : Expr} {pos : Pos} {fa fb : M D} (ha : SE X W T a fa) (hb : SE X W T b fb) : ST X W T (.Compare a [.IsNot] [b] pos) (mT (x2 notBD fa fb)) := st_cmp op_notBl opd_notB ha hb (nomark _)
/-! ### in a row of flat items -/
def flD : D → Option V
  | .non => some .non
  | .bl b => some (.bl b)
  | .int i => some (.int i)
  | .str x => some (.str x)
  | _ => none
def flsD : List D → Option (List V)
  | [] => some []
  | d :: ds => match flD d, flsD ds with
    | some v, some vs => some (v :: vs)
    | _, _ => none
theorem fl_rep {F : Hp} {v u : V} {d : D} (h : Rep K F v d) (q : flD d = some u) : v = u ∧ flatV u = true := by
  cases d <;> simp [flD] at q <;> subst q <;> cases h <;> exact ⟨rfl, rfl⟩
theorem fls_rep {F : Hp} : ∀ {vs us : List V} {ds : List D}, RepL K F vs ds → flsD ds = some us → vs = us ∧ us.all flatV = true
  | _, _, _, .nil, q => by cases q; exact ⟨rfl, rfl⟩
  | _, _, _, .cons (d := d) (ds := ds) h r, q => by
    unfold flsD at q
    cases e1 : flD d with
    | none => rw [e1] at q; cases q
    | some u =>
      cases e2 : flsD ds with
      | none => rw [e1, e2] at q; cases q
      | some us =>
        rw [e1, e2] at q
        cases q
        obtain ⟨a1, a2⟩ := fl_rep h e1
        obtain ⟨b1, b2⟩ := fls_rep r e2
        exact ⟨by rw [a1, b1], by rw [List.all_cons, a2, b2]; rfl⟩
def inSD (neg : Bool) (d e : D) : Option D := match flD d, rowD e with
  | some u, some ds => (flsD ds).map fun us => .bl (if neg then !inV u us else inV u us)
  | _, _ => none
theorem opd_in (neg : Bool) : OpD K (rIn K neg) (inSD neg) := by
  intro x v u d e z Q s hv hu q k
  unfold inSD at q
  cases e1 : flD d with
  | none => rw [e1] at q; cases q
  | some v' =>
    obtain ⟨rfl, f1⟩ := fl_rep hv e1
    rw [e1] at q
    cases e2 : rowD e with
    | none => rw [e2] at q; cases q
    | some ds =>
      rw [e2] at q
      simp only at q
      cases e3 : flsD ds with
      | none => rw [e3] at q; cases q
      | some us =>
        rw [e3] at q
        cases q
        have fin : ∀ {vs : List V} {p : Addr}, RepL K x.F vs ds → (SqL K x.H p vs ∨ SqT K x.H p vs) → u = .ref p → rIn K neg v u x.H Q := fun {vs p} r hs hp => by
          obtain ⟨rfl, f2⟩ := fls_rep r e3
          exact ⟨p, _, hp, hs, f1, f2, k x _ (Ext.refl s) (.bl _)⟩
        cases e <;> try (cases e2; done)
        · cases e2
          cases hu with
          | tup h r => exact fin r (.inr (sameT s.sub h)) rfl
        · cases e2
          cases hu with
          | lst h r => exact fin r (.inl (SqL.of (s.sub _ _ h))) rfl
        · cases e2
          cases hu with
          | scr h r => exact fin r (.inl (s.sub.seq h)) rfl
theorem se_in {a b : Expr} {pos : Pos} {fa fb : M D} (ha : SE X W T a fa) (hb : SE X W T b fb) (hm : behindInMarks .In b = false := by rfl) : SE X W T (.Compare a [.In] [b] pos) (x2 (inSD false) fa fb) := se_cmp op_in_seq (opd_in false) ha hb hm
theorem se_notin {a b : Expr} {pos : Pos} {fa fb : M D} (ha : SE X W T a fa) (hb : SE X W T b fb) (hm : behindInMarks .NotIn b = false := by rfl) : SE X W T (.Compare a [.NotIn] [b] pos) (x2 (inSD true) fa fb) := se_cmp op_notIn_seq (opd_in true) ha hb hm
theorem st_in {a b : Expr} {pos : Pos} {fa fb : M D} (ha : SE X W T a fa) (hb : SE X W T b fb) (hm : behindInMarks .In b = false := by rfl) : ST X W T (.Compare a [.In] [b] pos) (mT (x2 (inSD false) fa fb)) := st_cmp op_in_seq (opd_in false) ha hb hm
theorem st_notin {a b : Expr} {pos : Pos} {fa fb : M D} (ha : SE X W T a fa) (hb : SE X W T b fb) (hm : behindInMarks .NotIn b = false := by rfl) : ST X W T (.Compare a [.NotIn] [b] pos) (mT (x2 (inSD true) fa fb)) := st_cmp op_notIn_seq (opd_in true) ha hb hm
/-! ### found.extend(e) -/
def extC (d : D) (ds : List D) : Option (List D) := match d with
  | .lst es => if decide (ds.length + es.length ≤ most) then some (ds ++ es) else none
  | _ => none
def sExt (j : Nat) (m : M D) : M Fl := mB (hasC j) fun _ => mB m fun d => mB (updc j (extC d)) fun _ => mP .nx
theorem ss_ext (j : Nat) {x : Str} {e : Expr} {f : M D} {p1 apos cpos pos : Pos} (he : SE X W T e f) (hN : X.N[j]? = some x := by rfl) (hv : Vis X.env.scope x := by first | exact Or.inl rfl | exact Or.inr (Or.inl rfl) | exact Or.inr (Or.inr rfl)) (hT : j ∈ T := by decide)
    (hd : (x == ("__debug__" : Str)) = false := by decide) (hc : (x == ("__classdict__" : Str)) = false := by decide)
    (hbase : attributeBase (.Name x p1) "extend" X.env (eval (.Name x p1) X.env) = eval (.Name x p1) X.env := by rfl)
    (hfew : ((backTo cpos (starEach [e] X.env)).all (fun x => !x.1) && (backToKw cpos (keywordEach [] X.env)).all (fun x => x.1.isSome) && decide ([e].length + ([] : List Keyword).length + (if ([] : List Keyword).isEmpty then 0 else 1) < 30)) = true := by rfl)
    (hline : (apos.endLine == cpos.line) = true := by rfl) (hst : starEach [e] X.env = (false, eval e X.env) :: starEach [] X.env := by rfl) (hpl : (backTo cpos (starEach [] X.env)).any (·.1) = false := by rfl)
    (hs : swapsWith (.Call (.Attribute (.Name x p1) "extend" apos) [e] [] cpos) none pos.line X.env = pure false := by rfl) : SS X W T (.Expr (.Call (.Attribute (.Name x p1) "extend" apos) [e] [] cpos) pos) (sExt j f) := by
  obtain ⟨te, pe, ev⟩ := he.ex
  refine ⟨_, ps_expr (pe_bm PySem.F.plainAttrs_list PySem.F.slot_list_extend PySem.F.type_list_extend mt_extend (pe_var (i := j) hN hv hd hc) (pa_cons pe pa_nil hst) hbase hfew hline hst hpl) hs, fun x Dn s p => ?_⟩
  obtain ⟨⟨k, ds, q, us, e0, hs, hq⟩, p1⟩ := hasC_run s p
  refine ⟨_, hs, .inl ⟨rfl, _, SqL.of hq⟩, ?_⟩
  refine ev.bind s p1 fun d y f1 s1 e1 v hv p2 => ?_
  obtain ⟨k2, ds2, es, q2, us2, h1, h2, h3, h4, h5⟩ := updc_run s1 hT p2
  rw [e1, hs] at h1
  cases h1
  unfold extC at h4
  cases d <;> try (cases h4; done)
  rename_i zs
  simp only at h4
  by_cases c : decide (ds2.length + zs.length ≤ most) = true
  · rw [if_pos c] at h4
    cases h4
    cases hv with
    | lst hz rz =>
      obtain ⟨a, b, g⟩ := h5 (us2 ++ _) (h3.app rz)
      refine ⟨q, _, us2, _, rfl, rfl, h2, s1.sub _ _ hz, by rw [h3.length, rz.length]; exact of_most c, ?_⟩
      have := g _ rfl (Fr.refl T _) a
      show Dn.nx x.s _
      rw [← e1]
      exact this
  · rw [if_neg c] at h4
    cases h4
end
end FL
namespace FL
open PySem PySem.Spec L2
section
variable {X : Cx} {W : WX} {T : List Nat} {K : PySem.W.Frag}
/-! ### a dict of constants, an item of it -/
def valD (kvs : List (Key × D)) (k : Key) : Option D := (kvs.find? fun kv => decide (kv.1 = k)).map (·.2)
def ixK : D → D → Option D
  | .dct kvs, .str x => valD kvs (.inr x)
  | _, _ => none
def rDG : R2 := fun x y H Q => ∃ a v, x = .ref a ∧ DGet H a y (some v) ∧ Q v H
theorem valK_rep {F : Hp} : ∀ {kvs : List (Key × V)} {kds : List (Key × D)} {k : Key} {d : D}, RepK K F kvs kds → valD kds k = some d → ∃ v, valV kvs k = some v ∧ Rep K F v d
  | _, _, k, d, .nil, q => by cases q
  | _, _, k, d, .cons (k := j) (v := v) (vs := vs) (d := e) (ds := ds) h r, q => by
    by_cases c : j = k
    · have : valD ((j, e) :: ds) k = some e := by simp [valD, List.find?_cons, c]
      rw [this] at q
      cases q
      exact ⟨v, valV_pos c, h⟩
    · have : valD ((j, e) :: ds) k = valD ds k := by simp [valD, List.find?_cons, c]
      rw [this] at q
      obtain ⟨w, h1, h2⟩ := valK_rep r q
      exact ⟨w, by rw [valV_neg c]; exact h1, h2⟩
theorem opd_ixK : OpD K rDG ixK := by
  intro x v u d e z Q s hv hu q k
  cases d <;> cases e <;> simp [ixK] at q
  cases hu
  cases hv
  rename_i ha r
  obtain ⟨w, h1, h2⟩ := valK_rep r q
  exact ⟨_, w, rfl, by rw [← h1]; exact DGet.k (k := .inr _) (s.sub _ _ ha), k x _ (Ext.refl s) h2⟩
theorem se_ixk {a b : Expr} {pos : Pos} {fa fb : M D} (hu : X.A.units + 64 < cLine) (ha : SE X W T a fa) (hb : SE X W T b fb) (hs : NoSl b := by intro _ _; rfl) : SE X W T (.Subscript a b pos) (x2 ixK fa fb) := by
  obtain ⟨ta, pa, ea⟩ := ha.ex
  obtain ⟨tb, pb, eb⟩ := hb.ex
  exact ⟨_, pe_dget (by omega) pa pb hs, ev_op (ta := ta) (tb := tb) opd_ixK ea eb⟩
/-- a constant -/
def KCon (X : Cx) (e : Expr) (d : D) : Prop := ∃ v, PE X e (tC v) ∧ ∀ F, Rep X.K F v d
theorem kc_str {x : Str} {j pos} : KCon X (.Constant (.str x) j pos) (.str x) := ⟨_, pe_str, fun _ => .str x⟩
theorem kc_int {i : Int} {j pos} : KCon X (.Constant (.int i) j pos) (.int i) := ⟨_, pe_int, fun _ => .int i⟩
theorem kc_cint {x : Str} {i : Int} {pos : Pos} (h : ∃ t, X.mg x = some (.int i t)) (hg : Gl X x := by rfl) (hd : (x == ("__debug__" : Str)) = false := by decide) : KCon X (.Name x pos) (.int i) := by
  obtain ⟨t, h⟩ := h
  exact ⟨.int i, pe_glob hg h ⟨t, rfl⟩ hd, fun _ => .int i⟩
theorem kc_cstr {x y : Str} {pos : Pos} (h : ∃ t, X.mg x = some (.str y t)) (hg : Gl X x := by rfl) (hd : (x == ("__debug__" : Str)) = false := by decide) : KCon X (.Name x pos) (.str y) := by
  obtain ⟨t, h⟩ := h
  exact ⟨.str y, pe_glob hg h ⟨t, rfl⟩ hd, fun _ => .str y⟩
/-- the pairs of a display of constants -/
def KPairs (X : Cx) (pos : Pos) (keys : List (Option Expr)) (values : List Expr) (kds : List (Key × D)) : Prop :=
  ∃ kvs : List (Key × V), PPs X pos keys values (kvs.map fun kv => (tC (kV kv.1), tC kv.2)) ∧ ∀ F, RepK X.K F kvs kds
theorem kp_nil {pos : Pos} : KPairs X pos [] [] [] := ⟨[], pps_nil, fun _ => .nil⟩
theorem kp_cons {pos : Pos} {k v : Expr} {ks : List (Option Expr)} {vs : List Expr} {x : Str} {d : D} {kds : List (Key × D)} (hk : KCon X k (.str x)) (hv : KCon X v d) (hr : KPairs X pos ks vs kds) : KPairs X pos (some k :: ks) (v :: vs) ((.inr x, d) :: kds) := by
  obtain ⟨u, p1, r1⟩ := hk
  obtain ⟨w, p2, r2⟩ := hv
  obtain ⟨kvs, p3, r3⟩ := hr
  have e : u = .str x := by cases r1 (fun _ => none); rfl
  subst e
  exact ⟨(.inr x, w) :: kvs, pps_cons p1 p2 p3, fun F => .cons (r2 F) (r3 F)⟩
theorem tPairs_c {σ : St} : ∀ {kvs : List (Key × V)} {H : Hp} {Q : List (V × V) → Hp → Prop}, Q (kvs.map fun kv => (kV kv.1, kv.2)) H → tPairs (kvs.map fun kv => (tC (kV kv.1), tC kv.2)) σ H Q
  | [], _, _, h => h
  | kv :: kvs, H, Q, h => by
    show tPairs (kvs.map fun kv => (tC (kV kv.1), tC kv.2)) σ H fun ps H3 => Q ((kV kv.1, kv.2) :: ps) H3
    exact tPairs_c h
/-- the keys are told apart -/
def distD : List (Key × D) → Bool
  | [] => true
  | kd :: r => !(r.any fun x => decide (x.1 = kd.1)) && distD r
theorem rep_len {F : Hp} : ∀ {kvs : List (Key × V)} {kds : List (Key × D)}, RepK K F kvs kds → kvs.length = kds.length
  | _, _, .nil => rfl
  | _, _, .cons _ r => by rw [List.length_cons, List.length_cons, rep_len r]
theorem rep_keys {F : Hp} : ∀ {kvs : List (Key × V)} {kds : List (Key × D)}, RepK K F kvs kds → kvs.map (·.1) = kds.map (·.1)
  | _, _, .nil => rfl
  | _, _, .cons _ r => by rw [List.map_cons, List.map_cons, rep_keys r]
theorem merge_dist : ∀ {more : List (Key × V)} {kvs : List (Key × V)}, (kvs ++ more).map (·.1) |>.Nodup → mergeK kvs more = kvs ++ more
  | [], kvs, _ => (List.append_nil _).symm
  | p :: r, kvs, h => by
    have e : putK kvs p.1 p.2 = kvs ++ [p] := by
      unfold putK
      rw [if_neg]
      intro z
      obtain ⟨q, hq, e⟩ := List.any_eq_true.mp z
      have e := of_decide_eq_true e
      rw [List.map_append, List.nodup_append] at h
      exact h.2.2 q.1 (List.mem_map_of_mem hq) p.1 (List.mem_map_of_mem (List.mem_cons_self ..)) e
    show mergeK (putK kvs p.1 p.2) r = _
    rw [e, merge_dist (by rw [List.append_assoc]; exact h), List.append_assoc]
    rfl
theorem se_dctC {pos : Pos} {keys : List (Option Expr)} {values : List Expr} {kds : List (Key × D)} (h : KPairs X pos keys values kds) (hn : (kds.map (·.1)).Nodup := by decide) (hall : keys.all (·.isSome) = true := by rfl) (hl : keys.length = values.length := by rfl) (h0 : keys ≠ [] := by exact List.cons_ne_nil _ _) (h15 : keys.length ≤ 15 := by decide) (hk : kds.length ≤ 15 := by decide) : SE X W T (.Dict keys values pos) (xC (.dct kds)) := by
  obtain ⟨kvs, pp, rep⟩ := h
  refine ⟨_, pe_disp pp hall hl h0 h15, fun x Q s p => ?_⟩
  intro q hq
  refine tPairs_c ⟨upd_same, kvs, rfl, by rw [rep_len (rep (fun _ => none))]; exact hk, ?_⟩
  have e : mergeK [] kvs = kvs := merge_dist (by rw [List.nil_append, rep_keys (rep (fun _ => none))]; exact hn)
  rw [e]
  have e2 : upd (upd x.H q (.dK [])) q (.dK kvs) = upd x.H q (.dK kvs) := by
    funext a
    unfold upd
    split <;> rfl
  rw [e2]
  exact Post.here p (Ext.new s hq) s rfl _ (.dct upd_same (rep _))
end
end FL
namespace FL
open PySem PySem.Spec L2
section
variable {X : Cx} {W : WX} {T : List Nat} {K : PySem.W.Frag}
/-! ### two `for` in a comprehension -/
theorem lc1_it {J : It} {n : Nat} {G : Hp → Prop} {Y : Nat → Hp → V → Hp → Prop} (w : Walk J n G Y) {g : TG} {tt : TT} {te : TE} {vs : List Nat} {σ : St} {H1 : Hp} {D : Addr} {Qd : Hp → Prop} (Pv : Nat → Hp → Prop) (h0 : Pv 0 H1) (hG : ∀ i H, i ≤ n → Pv i H → G H)
    (hs : ∀ i x H H', i < n → Pv i H → Y i H x H' → g x (wipe σ vs) H' fun σ2 H2 => wipe σ2 vs = wipe σ vs ∧ tt σ2 H2 fun b H3 =>
      if b = true then te σ2 H3 fun y H4 => ∃ acc, H4 D = some (.lst acc) ∧ acc.length < sizeLine ∧ Pv (i + 1) (upd H4 D (.lst (acc ++ [y]))) else Pv (i + 1) H3) (hd : ∀ H, Pv n H → Qd H) :
    ∃ W : Nat → Nat → Hp → Prop, (∃ m, W 0 m H1) ∧ ∀ i m H, W i m H →
      (J.stop i H ∧ Qd H) ∨ (J.go i H ∧ ∃ Nx : Hp → Prop, (∀ H', Nx H' → ∃ m', m' < m ∧ W (i + 1) m' H') ∧ ∀ x H', J.yld i H x H' → g x (wipe σ vs) H' fun σ2 H2 => wipe σ2 vs = wipe σ vs ∧ tt σ2 H2 fun b H3 =>
        if b = true then te σ2 H3 fun y H4 => ∃ acc, H4 D = some (.lst acc) ∧ acc.length < sizeLine ∧ Nx (upd H4 D (.lst (acc ++ [y]))) else Nx H3) := by
  refine ⟨fun i m H => m = n - i ∧ i ≤ n ∧ Pv i H, ⟨n, by simp, Nat.zero_le _, h0⟩, ?_⟩
  rintro i m H ⟨rfl, hi, p⟩
  have q := hG i H hi p
  by_cases hlt : i < n
  · refine .inr ⟨w.goes i H hlt q, Pv (i + 1), fun H' p' => ⟨n - (i + 1), by omega, rfl, hlt, p'⟩, fun x H' y => hs i x H H' hlt p (w.yields i H x H' hlt q y)⟩
  · have e : i = n := by omega
    subst e
    exact .inl ⟨w.stops H q, hd H p⟩
/-- the inner list, then what follows -/
def innD (vs vs1 : List Nat) (g1 : D → M Unit) (t1 : M Bool) (e : M D) (k : List D → M (List D)) : List D → List D → M (List D) := fun es acc r => match compD vs1 g1 t1 e es acc r with
  | .ok acc2 r2 => k acc2 (wipeE r2 vs)
  | _ => .bad
def compD2 (vs vs1 : List Nat) (g : D → M Unit) (t : M Bool) (it1 : M (List D)) (g1 : D → M Unit) (t1 : M Bool) (e : M D) : List D → List D → M (List D)
  | [], acc => mP acc
  | d :: ds, acc => mB (noX (g d)) fun _ => mB (noX t) fun k => if k then mB (noX it1) fun es r => innD vs vs1 g1 t1 e (fun acc2 => compD2 vs vs1 g t it1 g1 t1 e ds acc2) es acc (wipeE r vs1)
    else fun r => compD2 vs vs1 g t it1 g1 t1 e ds acc (wipeE r vs)
/-- [e for g in it if t for g1 in it1 if t1] -/
def lComp2 (vs vs1 : List Nat) (it : M (List D)) (g : D → M Unit) (t : M Bool) (it1 : M (List D)) (g1 : D → M Unit) (t1 : M Bool) (e : M D) : M (List D) := mB it fun ds r => if noCel vs r then (match compD2 vs vs1 g t it1 g1 t1 e ds [] (wipeE r vs) with
  | .ok acc r2 => .ok acc (putBack r r2 vs)
  | _ => .bad) else .bad
theorem lc2_it {J : It} {n : Nat} {G : Hp → Prop} {Y : Nat → Hp → V → Hp → Prop} (w : Walk J n G Y) {g g1 : TG} {tt tt1 : TT} {wi1 : TI} {te : TE} {vs vs1 : List Nat} {σ : St} {H1 : Hp} {D : Addr} {Qd : Hp → Prop} (Pv : Nat → Hp → Prop) (h0 : Pv 0 (upd H1 D (.lst []))) (hG : ∀ i H, i ≤ n → Pv i H → G H)
    (hs : ∀ i x H H', i < n → Pv i H → Y i H x H' → g x (wipe σ vs) H' fun σ2 H2 => wipe σ2 vs = wipe σ vs ∧ tt σ2 H2 fun b H3 =>
      if b = true then wi1 σ2 H3 fun J1 H4 => ∃ W1 : Nat → Nat → Hp → Prop, (∃ m, W1 0 m H4) ∧ ∀ j k H, W1 j k H →
        (J1.stop j H ∧ Pv (i + 1) H) ∨ (J1.go j H ∧ ∃ Nx1 : Hp → Prop, (∀ H', Nx1 H' → ∃ k', k' < k ∧ W1 (j + 1) k' H') ∧ ∀ x H', J1.yld j H x H' → g1 x (wipe σ2 vs1) H' fun σ3 H5 => wipe σ3 vs1 = wipe σ2 vs1 ∧ tt1 σ3 H5 fun b H6 =>
          if b = true then te σ3 H6 fun y H7 => ∃ acc, H7 D = some (.lst acc) ∧ acc.length < sizeLine ∧ Nx1 (upd H7 D (.lst (acc ++ [y]))) else Nx1 H6)
      else Pv (i + 1) H3) (hd : ∀ H, Pv n H → Qd H) :
    ∃ W : Nat → Nat → Hp → Prop, (∃ m, W 0 m (upd H1 D (.lst []))) ∧ ∀ i m H, W i m H →
  (J.stop i H ∧ Qd H) ∨ (J.go i H ∧ ∃ Nx : Hp → Prop, (∀ H', Nx H' → ∃ m', m' < m ∧ W (i + 1) m' H') ∧ ∀ x H', J.yld i H x H' → g x (wipe σ vs) H' fun σ2 H2 => wipe σ2 vs = wipe σ vs ∧ tt σ2 H2 fun b H3 =>
    if b = true then wi1 σ2 H3 fun J1 H4 => ∃ W1 : Nat → Nat → Hp → Prop, (∃ m, W1 0 m H4) ∧ ∀ j k H, W1 j k H →
      (J1.stop j H ∧ Nx H) ∨ (J1.go j H ∧ ∃ Nx1 : Hp → Prop, (∀ H', Nx1 H' → ∃ k', k' < k ∧ W1 (j + 1) k' H') ∧ ∀ x H', J1.yld j H x H' → g1 x (wipe σ2 vs1) H' fun σ3 H5 => wipe σ3 vs1 = wipe σ2 vs1 ∧ tt1 σ3 H5 fun b H6 =>
        if b = true then te σ3 H6 fun y H7 => ∃ acc, H7 D = some (.lst acc) ∧ acc.length < sizeLine ∧ Nx1 (upd H7 D (.lst (acc ++ [y]))) else Nx1 H6)
    else Nx H3) := by
  refine ⟨fun i m H => m = n - i ∧ i ≤ n ∧ Pv i H, ⟨n, by simp, Nat.zero_le _, h0⟩, ?_⟩
  rintro i m H ⟨rfl, hi, p⟩
  have q := hG i H hi p
  by_cases hlt : i < n
  · refine .inr ⟨w.goes i H hlt q, Pv (i + 1), fun H' p' => ⟨n - (i + 1), by omega, rfl, hlt, p'⟩, fun x H' y => hs i x H H' hlt p (w.yields i H x H' hlt q y)⟩
  · have e : i = n := by omega
    subst e
    exact .inl ⟨w.stops H q, hd H p⟩
theorem ev_comp2 {wi wi1 : TI} {g g1 : TG} {tt tt1 : TT} {te : TE} {vs vs1 : List Nat} {fi fi1 : M (List D)} {fg fg1 : D → M Unit} {ft ft1 : M Bool} {fe : M D} (hT : ∀ i ∈ vs, i ∈ T) (hv1 : ∀ i ∈ vs1, i ∈ vs)
    (ei : EvI X W T wi fi) (eg : EvG X W0 vs g fg) (et : EvT X W0 T tt ft) (ei1 : EvI X W0 T wi1 fi1) (eg1 : EvG X W0 vs1 g1 fg1) (et1 : EvT X W0 T tt1 ft1) (ee : EvE X W0 T te fe) : EvL X W T (tLc2 wi g tt wi1 g1 tt1 te vs vs1) (lComp2 vs vs1 fi fg ft fi1 fg1 ft1 fe) := by
  intro x Q s p
  refine ei x _ s ?_
  unfold lComp2 mB at p
  cases e0 : fi x.r with
  | exc c pl ρ => simp only [e0] at p; exact p
  | bad => simp only [e0] at p; exact p
  | ok ds ρ =>
    simp only [e0] at p
    intro y hy f1 s1 e1 J wk
    rw [← hy] at p
    by_cases hno : noCel vs y.r = true
    case neg => rw [if_neg hno] at p; exact p.elim
    rw [if_pos hno] at p
    have p0 := p.shift f1
    clear p
    obtain ⟨G, Y, w, hG, hY⟩ := wk
    intro q hq
    obtain ⟨fw, sw⟩ := wiped_ok (T := T) s1 hT
    have hbq : (wiped y vs).H q = none := hq
    have nq : ∀ i k, ¬ CelAt (wiped y vs) i k q := fun i k c => not_cel s1 hq i k (wiped_cel c).2
    -- the end
    have key : ∀ (acc : List D) (r2 : List Ent) (z : Cf), compD2 vs vs1 fg ft fi1 fg1 ft1 fe ds [] (wipeE y.r vs) = .ok acc r2 → z.r = r2 → z.s = wipe y.s vs → Fr T (wiped y vs) z → RSt X.K z → (∀ i k, ¬ CelAt z i k q) →
        ∀ us, z.H q = some (.lst us) → z.F q = none → RepL X.K z.F us acc → Q (.ref q) z.H := by
      intro acc r2 z hc hz2 hz1 fz sz h4 us h1 h2 h3
      have p0 := p0
      rw [hc] at p0
      have f2 := fw.trans fz
      have lr : z.r.length = y.r.length := f2.ln
      have noc : ∀ i ∈ vs, ∀ k ds, y.r[i]? ≠ some (.cel k ds) := fun i hi k ds z => by
        have := List.all_eq_true.mp hno i hi
        rw [z] at this; cases this
      have celz : ∀ i k a, CelAt ⟨z.F, z.H, y.s, putBack y.r z.r vs⟩ i k a → CelAt z i k a := fun i k a ⟨⟨gs, g1⟩, g2⟩ => by
        have g1' : (putBack y.r z.r vs)[i]? = some (.cel k gs) := g1
        by_cases hi : i ∈ vs
        · rw [putBack_in lr hi] at g1'
          exact (noc i hi k gs g1').elim
        · rw [putBack_ne hi] at g1'
          refine ⟨⟨gs, g1'⟩, ?_⟩
          rw [hz1, wipe_ne hi]; exact g2
      refine p0 ⟨z.F, z.H, y.s, putBack y.r z.r vs⟩ (by rw [hz2]) ?_ ?_ e1 q us ⟨h1, h2, h3⟩ (f1.dm q hq) (fun i k c => h4 i k (celz i k q c))
      · refine ⟨(putBack_length _ _ _).trans lr, f2.ff, f2.dm, f2.nw, f2.hp, fun i k a c => f2.cc i k a (celz i k a c), fun i hi => ?_⟩
        have hv : i ∉ vs := fun z => hi (hT i z)
        refine ⟨?_, rfl⟩
        show (putBack y.r z.r vs)[i]? = y.r[i]?
        rw [putBack_ne hv]
        exact (f2.un i hi).1
      · refine ⟨sz.sub, by show y.s.length = (putBack y.r z.r vs).length; rw [putBack_length, lr]; exact s1.len, fun i d h => ?_, fun i k es h => ?_, fun i j k l a c c' => sz.dis i j k l a (celz _ _ _ c) (celz _ _ _ c')⟩
        · have h' : (putBack y.r z.r vs)[i]? = some (.val d) := h
          by_cases hi : i ∈ vs
          · rw [putBack_in lr hi] at h'
            obtain ⟨v, g1, g2⟩ := s1.val i d h'
            exact ⟨v, g1, g2.mono f2.ff⟩
          · rw [putBack_ne hi] at h'
            obtain ⟨v, g1, g2⟩ := sz.val i d h'
            rw [hz1, wipe_ne hi] at g1
            exact ⟨v, g1, g2⟩
        · have h' : (putBack y.r z.r vs)[i]? = some (.cel k es) := h
          by_cases hi : i ∈ vs
          · rw [putBack_in lr hi] at h'
            exact (noc i hi k es h').elim
          · rw [putBack_ne hi] at h'
            obtain ⟨a, g1, g2⟩ := sz.cel i k es h'
            rw [hz1, wipe_ne hi] at g1
            exact ⟨a, g1, g2⟩
    rw [← e1]
    obtain ⟨RR, hRR⟩ : ∃ RR, compD2 vs vs1 fg ft fi1 fg1 ft1 fe ds [] (wipeE y.r vs) = RR := ⟨_, rfl⟩
    rw [hRR] at p0
    simp only [hRR] at key
    let Pv : Nat → Hp → Prop := fun i H => ∃ (z : Cf) (acc : List D) (us : List V), z.s = wipe y.s vs ∧ z.H = H ∧ Fr T (wiped y vs) z ∧ RSt X.K z ∧ z.H q = some (.lst us) ∧ z.F q = none ∧ RepL X.K z.F us acc ∧
      (∀ i k, ¬ CelAt z i k q) ∧ compD2 vs vs1 fg ft fi1 fg1 ft1 fe (ds.drop i) acc z.r = RR
    have good : RR ≠ .bad := by intro z; rw [z] at p0; exact p0
    obtain ⟨b1, b2⟩ := bump (o := .lst []) (Fr.refl T (wiped y vs)) sw hbq (s1.sub.free hq) nq
    refine lc2_it w (vs1 := vs1) (D := q) (Qd := fun H => Q (.ref q) H) Pv ⟨_, [], [], rfl, rfl, b1, b2, upd_same, s1.sub.free hq, .nil, nq, by rw [List.drop_zero]; exact hRR⟩ ?_ ?_ ?_
    · rintro i H hi ⟨z, acc, us, _, rfl, fz, sz, _⟩
      exact hG z sz (fw.ff.trans fz.ff)
    · rintro i v H H' hi ⟨z, acc, us, zs, rfl, fz, sz, h1, h2, h3, h4, h5⟩ hy2
      obtain ⟨z', d, ex, rfl, hd, hv⟩ := hY i z v H' sz (fw.ff.trans fz.ff) hy2
      have s3 := ex.rst sz
      rw [drop_cons hd, ← ex.r] at h5
      have zs' : z'.s = wipe y.s vs := ex.s.trans zs
      have fz' : Fr T (wiped y vs) z' := fz.trans (ex.fr T)
      obtain ⟨i1, i2, i3⟩ := stays (ex.fr T) h1 h2 h4
      have h3' := h3.mono ex.ff
      rw [← zs']
      have c5 : compD2 vs vs1 fg ft fi1 fg1 ft1 fe (d :: ds.drop (i + 1)) acc z'.r ≠ .bad := by rw [h5]; exact good
      unfold compD2 mB at h5 c5
      refine eg z' v d _ s3 hv (noX_post (W := W0) ?_)
      cases ega : noX (fg d) z'.r with
      | bad => simp only [ega] at c5; exact (c5 rfl).elim
      | exc c pl r => exact (noX_exc ega).elim
      | ok _ ρ2 =>
        simp only [ega] at h5 c5
        intro z2 hz2 f2 s2
        rw [← hz2] at h5 c5
        have f2T : Fr T z' z2 := f2.mono hT
        obtain ⟨j1, j2, j3⟩ := stays f2T i1 i2 i3
        have hw2 : wipe z2.s vs = wipe y.s vs := by
          have l2 : z2.s.length = z'.s.length := by rw [s2.len, s3.len]; exact f2.ln
          rw [wipe_eq l2 fun i hi => (f2.un i hi).2, zs', wipe_wipe]
        refine ⟨hw2.trans zs'.symm, ?_⟩
        refine et z2 _ s2 (noX_post (W := W0) ?_)
        cases eta : noX ft z2.r with
        | bad => simp only [eta] at c5; exact (c5 rfl).elim
        | exc c pl r => exact (noX_exc eta).elim
        | ok b ρ3 =>
          simp only [eta] at h5 c5
          intro z3 hz3 f3 s3' e3
          rw [← hz3] at h5 c5
          obtain ⟨k1, k2, k3⟩ := stays f3 j1 j2 j3
          have fz3 : Fr T (wiped y vs) z3 := (fz'.trans f2T).trans f3
          cases b with
          | false =>
            simp only [Bool.false_eq_true, if_false] at h5 c5 ⊢
            obtain ⟨g1, g2⟩ := wiped_ok (T := T) s3' hT
            refine ⟨wiped z3 vs, acc, us, by show wipe z3.s vs = _; rw [e3, hw2], rfl, fz3.trans g1, g2, k1, k2, h3'.mono (f2.ff.trans f3.ff), fun i k c => k3 i k (wiped_cel c).2, ?_⟩
            exact h5
          | true =>
            simp only [if_true] at h5 c5 ⊢
            rw [← e3]
            refine ei1 z3 _ s3' (noX_post (W := W0) ?_)
            cases eia : noX fi1 z3.r with
            | bad => simp only [eia] at c5; exact (c5 rfl).elim
            | exc c pl r => exact (noX_exc eia).elim
            | ok es ρ4 =>
              simp only [eia] at h5 c5
              intro z4 hz4 f4 s4 e4 J1 wk1
              rw [← hz4] at h5 c5
              obtain ⟨G1, Y1, w1, hG1, hY1⟩ := wk1
              obtain ⟨l1, l2, l3⟩ := stays f4 k1 k2 k3
              have fz4 := fz3.trans f4
              have hT1 : ∀ i ∈ vs1, i ∈ T := fun i hi => hT i (hv1 i hi)
              have h34 := h3'.mono (f2.ff.trans (f3.ff.trans f4.ff))
              obtain ⟨g1', g2'⟩ := wiped_ok (T := T) s4 hT1
              have hw4 : wipe z4.s vs = wipe y.s vs := by rw [e4, e3, hw2]
              let Pv1 : Nat → Hp → Prop := fun j H => ∃ (u : Cf) (acc' : List D) (us' : List V), u.s = wipe z4.s vs1 ∧ u.H = H ∧ Fr T (wiped y vs) u ∧ RSt X.K u ∧ u.H q = some (.lst us') ∧ u.F q = none ∧ RepL X.K u.F us' acc' ∧
                (∀ i k, ¬ CelAt u i k q) ∧ Same z4.F u.F ∧ innD vs vs1 fg1 ft1 fe (fun acc2 => compD2 vs vs1 fg ft fi1 fg1 ft1 fe (ds.drop (i + 1)) acc2) (es.drop j) acc' u.r = RR
              rw [← e4]
              refine lc1_it w1 (D := q) Pv1 ⟨wiped z4 vs1, acc, us, rfl, rfl, fz4.trans g1', g2', l1, l2, h34, fun i k c => l3 i k (wiped_cel c).2, Same.refl _, by rw [List.drop_zero]; exact h5⟩ ?_ ?_ ?_
              · rintro j H hj ⟨u, acc', us', _, rfl, fu, su, _, _, _, _, sm, _⟩
                exact hG1 u su sm
              · rintro j v1 H H' hj ⟨u, acc', us', us0, rfl, fu, su, m1, m2, m3, m4, sm, m5⟩ hy3
                obtain ⟨u', d1, ex1, rfl, hd1, hv1'⟩ := hY1 j u v1 H' su sm hy3
                have su' := ex1.rst su
                rw [drop_cons hd1, ← ex1.r] at m5
                have us0' : u'.s = wipe z4.s vs1 := ex1.s.trans us0
                have fu' : Fr T (wiped y vs) u' := fu.trans (ex1.fr T)
                obtain ⟨n1, n2, n3⟩ := stays (ex1.fr T) m1 m2 m4
                have m3' := m3.mono ex1.ff
                rw [← us0']
                have c6 : innD vs vs1 fg1 ft1 fe (fun acc2 => compD2 vs vs1 fg ft fi1 fg1 ft1 fe (ds.drop (i + 1)) acc2) (d1 :: es.drop (j + 1)) acc' u'.r ≠ .bad := by rw [m5]; exact good
                unfold innD compD mB at m5 c6
                refine eg1 u' v1 d1 _ su' hv1' (noX_post (W := W0) ?_)
                cases egb : noX (fg1 d1) u'.r with
                | bad => simp only [egb] at c6; exact (c6 rfl).elim
                | exc c pl r => exact (noX_exc egb).elim
                | ok _ ρ5 =>
                  simp only [egb] at m5 c6
                  intro z5 hz5 f5 s5
                  rw [← hz5] at m5 c6
                  have f5T : Fr T u' z5 := f5.mono hT1
                  obtain ⟨o1, o2, o3⟩ := stays f5T n1 n2 n3
                  have hw5 : wipe z5.s vs1 = wipe z4.s vs1 := by
                    have l2 : z5.s.length = u'.s.length := by rw [s5.len, su'.len]; exact f5.ln
                    rw [wipe_eq l2 fun i hi => (f5.un i hi).2, us0', wipe_wipe]
                  refine ⟨hw5.trans us0'.symm, ?_⟩
                  refine et1 z5 _ s5 (noX_post (W := W0) ?_)
                  cases etb : noX ft1 z5.r with
                  | bad => simp only [etb] at c6; exact (c6 rfl).elim
                  | exc c pl r => exact (noX_exc etb).elim
                  | ok b ρ6 =>
                    simp only [etb] at m5 c6
                    intro z6 hz6 f6 s6 e6
                    rw [← hz6] at m5 c6
                    obtain ⟨q1, q2, q3⟩ := stays f6 o1 o2 o3
                    have fz6 : Fr T (wiped y vs) z6 := (fu'.trans f5T).trans f6
                    have sm6 : Same z4.F z6.F := (sm.trans ex1.ff).trans (f5.ff.trans f6.ff)
                    cases b with
                    | false =>
                      simp only [Bool.false_eq_true, if_false] at m5 c6 ⊢
                      obtain ⟨g1, g2⟩ := wiped_ok (T := T) s6 hT1
                      refine ⟨wiped z6 vs1, acc', us', by show wipe z6.s vs1 = _; rw [e6, hw5], rfl, fz6.trans g1, g2, q1, q2, m3'.mono (f5.ff.trans f6.ff), fun i k c => q3 i k (wiped_cel c).2, sm6, ?_⟩
                      exact m5
                    | true =>
                      simp only [if_true] at m5 c6 ⊢
                      rw [← e6]
                      refine ee z6 _ s6 (noX_post (W := W0) ?_)
                      cases eeb : noX fe z6.r with
                      | bad => simp only [eeb] at c6; exact (c6 rfl).elim
                      | exc c pl r => exact (noX_exc eeb).elim
                      | ok d7 ρ7 =>
                        simp only [eeb] at m5 c6
                        intro z7 hz7 f7 s7 e7 v7 hv7
                        rw [← hz7] at m5 c6
                        obtain ⟨r1, r2, r3⟩ := stays f7 q1 q2 q3
                        have fz7 := fz6.trans f7
                        by_cases c : decide (acc'.length < most) = true
                        · rw [if_pos c] at m5 c6
                          have hl : us'.length < sizeLine := by rw [m3.length]; exact Nat.lt_of_lt_of_le (of_decide_eq_true c) most_line
                          obtain ⟨g1, g2⟩ := wiped_ok (T := T) s7 hT1
                          obtain ⟨t1, t2⟩ := bump (o := .lst (us' ++ [v7])) (fz7.trans g1) g2 hbq r2 fun i k c => r3 i k (wiped_cel c).2
                          refine ⟨us', r1, hl, ⟨_, acc' ++ [d7], us' ++ [v7], ?_, rfl, t1, t2, upd_same, r2, ?_, fun i k c => r3 i k (wiped_cel (x := z7) ⟨c.1, c.2⟩).2, sm6.trans f7.ff, m5⟩⟩
                          · show wipe z7.s vs1 = _
                            rw [e7, e6, hw5]
                          · exact (m3'.mono (f5.ff.trans (f6.ff.trans f7.ff))).app (.cons hv7 .nil)
                        · rw [if_neg c] at c6
                          exact (c6 rfl).elim
              · rintro H ⟨u, acc', us', us0, rfl, fu, su, m1, m2, m3, m4, sm, m5⟩
                rw [List.drop_length] at m5
                obtain ⟨g1, g2⟩ := wiped_ok (T := T) su hT
                refine ⟨wiped u vs, acc', us', ?_, rfl, fu.trans g1, g2, m1, m2, m3, fun i k c => m4 i k (wiped_cel c).2, m5⟩
                show wipe u.s vs = _
                rw [us0]
                have : wipe (wipe z4.s vs1) vs = wipe z4.s vs := wipe_eq (wipe_length _ _) fun i hi => wipe_ne fun z => hi (hv1 i z)
                rw [this, hw4]
    · rintro H ⟨z, acc, us, zs, rfl, fz, sz, h1, h2, h3, h4, h5⟩
      rw [List.drop_length] at h5
      exact key acc z.r z h5.symm rfl zs fz sz h4 us h1 h2 h3
theorem el_comp2 (own : List (Str × Nat)) (vs1 : List Nat) {elt tg iter tg1 iter1 : Expr} {ifs ifs1 : List Expr} {scope : Scope} {pos : Pos} {fi fi1 : M (List D)} {fg fg1 : D → M Unit} {ft ft1 : M Bool} {fe : M D} (hc : X.calm = true) (hN : X.N.Nodup) (hi : SI X W T tg iter fi)
    (hg : ∀ (s : Shared) (H : Hp) (C : Addr) (cl : List (Str × Addr)) (fp : List Addr), SG (X.blk s H scope (compEnvC scope cl C X.env) fp) W0 (own.map (·.2)) tg fg)
    (ht : ∀ (s : Shared) (H : Hp) (C : Addr) (cl : List (Str × Addr)) (fp : List Addr), STs (X.blk s H scope (compEnvC scope cl C X.env) fp) W0 T ifs ft)
    (hi1 : ∀ (s : Shared) (H : Hp) (C : Addr) (cl : List (Str × Addr)) (fp : List Addr), SI (X.blk s H scope (compEnvC scope cl C X.env) fp) W0 T tg1 iter1 fi1)
    (hg1 : ∀ (s : Shared) (H : Hp) (C : Addr) (cl : List (Str × Addr)) (fp : List Addr), SG (X.blk s H scope (compEnvC scope cl C X.env) fp) W0 vs1 tg1 fg1)
    (ht1 : ∀ (s : Shared) (H : Hp) (C : Addr) (cl : List (Str × Addr)) (fp : List Addr), STs (X.blk s H scope (compEnvC scope cl C X.env) fp) W0 T ifs1 ft1)
    (he : ∀ (s : Shared) (H : Hp) (C : Addr) (cl : List (Str × Addr)) (fp : List Addr), SE (X.blk s H scope (compEnvC scope cl C X.env) fp) W0 T elt fe)
    (ok : BlkOk X.N X.env.scope scope own) (hT : ∀ i ∈ own.map (·.2), i ∈ T := by decide) (hv : ∀ i ∈ vs1, i ∈ own.map (·.2) := by decide) (hs : ∀ x, foldedSetIterable iter X.env x = pure x := by intro _; rfl) (hs1 : ∀ env x, foldedSetIterable iter1 env x = pure x := by intro _ _; rfl) : SL X W T (.ListComp elt [⟨tg, iter, ifs, 0⟩, ⟨tg1, iter1, ifs1, 0⟩] scope pos) (lComp2 (own.map (·.2)) vs1 fi fg ft fi1 fg1 ft1 fe) := by
  obtain ⟨wi, pi, ei⟩ := hi.ex
  exact ⟨_, pe_lc2 hc hN pi ok hv (g := canG X.K X.mg W0 (own.map (·.2)) fg) (tt := canT X.K X.mg W0 T ft) (wi1 := canI X.K X.mg W0 T fi1) (g1 := canG X.K X.mg W0 vs1 fg1) (tt1 := canT X.K X.mg W0 T ft1) (te := canE X.K X.mg W0 T fe) (fun s H C cl fp => (hg s H C cl fp).can) (fun s H C cl fp => (ht s H C cl fp).can) (fun s H C cl fp => (hi1 s H C cl fp).can) (fun s H C cl fp => (hg1 s H C cl fp).can) (fun s H C cl fp => (ht1 s H C cl fp).can) (fun s H C cl fp => (he s H C cl fp).can) hs hs1,
    ev_comp2 hT hv ei canG_ev canT_ev canI_ev canG_ev canT_ev canE_ev⟩
end
end FL
/-! FL27: zip walked, starred items, sorted whole numbers, insert, a fresh list handed on, several names where one is a cell. -/
namespace FL
open PySem PySem.Spec L2
section
variable {X : Cx} {W : WX} {T : List Nat} {K : PySem.W.Frag}
/-! ### a comprehension within a comprehension -/
theorem rel_eq {osc : Scope} {env e0 : Env} (he : env.scope = e0.scope) : relabel osc env = relabel osc e0 := by
  unfold relabel Env.kindOf
  rw [he]
theorem blkOk_in {Y : Cx} {s : Shared} {H : Hp} {osc isc : Scope} {cl : List (Str × Addr)} {C : Addr} {fp : List Addr} {N : List Str} {own : List (Str × Nat)} (e0 : Env) (he : Y.env.scope = e0.scope) (h : blkC N (relabel osc e0) isc own = true) : BlkOk N (Y.blk s H osc (compEnvC osc cl C Y.env) fp).env.scope isc own := by
  show BlkOk N (relabel osc Y.env) isc own
  rw [rel_eq he]
  exact blkOk_by h
/-! ### zip -/
def zipD (a b : List D) : List D := (a.zip b).map fun p => .tup [p.1, p.2]
theorem zipD_len (a b : List D) : (zipD a b).length = min a.length b.length := by unfold zipD; rw [List.length_map, List.length_zip]
theorem zipD_get {a b : List D} {i : Nat} {x y : D} (h : a[i]? = some x) (h2 : b[i]? = some y) : (zipD a b)[i]? = some (.tup [x, y]) := by
  unfold zipD
  rw [List.getElem?_map, List.getElem?_zip_eq_some.mpr (⟨h, h2⟩ : a[i]? = some (x, y).1 ∧ b[i]? = some (x, y).2)]
  rfl
def zip2 : List D → Option (List D)
  | [.tup a, .tup b] => some (zipD a b)
  | [.lst a, .lst b] => some (zipD a b)
  | [.scr a, .lst b] => some (zipD a b)
  | [.lst a, .scr b] => some (zipD a b)
  | _ => none
theorem walk_zipT {a b : Addr} {xs ys : List V} {n : Nat} (hn : n = min xs.length ys.length) : Walk (RZ.ItzT K a b) n (fun H => SqT K H a xs ∧ SqT K H b ys) (YPair (fun i => xs[i]?) (fun i => ys[i]?)) := by
  subst hn
  refine ⟨fun i _ hi q => ?_, fun _ q => ⟨xs, ys, q.1, q.2, by omega⟩, fun i H v H' _ q y => ?_⟩
  · have h1 : i < xs.length := by omega
    have h2 : i < ys.length := by omega
    exact ⟨xs, ys, xs[i], ys[i], q.1, q.2, by simp [h1], by simp [h2]⟩
  · obtain ⟨T, x, z, h1, h2, h3, h4, h5⟩ := y
    exact ⟨T, x, z, h1, h2, h3, h4 xs q.1, h5 ys q.2⟩
theorem walkZ {a b : List D} {xs ys : List V} {y : Cf} {J : It} {G : Hp → Prop} (w : Walk J (min xs.length ys.length) G (YPair (fun i => xs[i]?) (fun i => ys[i]?))) (r : RepL K y.F xs a) (r2 : RepL K y.F ys b) (hG : ∀ z : Cf, RSt K z → Same y.F z.F → G z.H) : WalkD K J (zipD a b) y := by
  refine ⟨G, _, by rw [zipD_len, ← r.length, ← r2.length]; exact w, hG, fun i z v H' s e q => ?_⟩
  have q' := q
  obtain ⟨t, x0, y0, e0, h1, h2, h4, h5⟩ := q'
  obtain ⟨d, h6, h7⟩ := r.get' h4
  obtain ⟨d2, h8, h9⟩ := r2.get' h5
  obtain ⟨z', a1, a2, a3⟩ := pair_step (d := d) (e := d2) s q (fun x hx => by
    have hx' : xs[i]? = some x := hx
    have h4' : xs[i]? = some x0 := h4
    rw [h4'] at hx'
    cases hx'
    exact h7.mono e) (fun y' hy => by
    have hy' : ys[i]? = some y' := hy
    have h5' : ys[i]? = some y0 := h5
    rw [h5'] at hy'
    cases hy'
    exact h9.mono e)
  exact ⟨z', _, a1, a2, zipD_get h6 h8, a3⟩
theorem si_zip {e e2 : Expr} {f : M (List D)} {p pos tpos : Pos} {elts : List Expr} {kk : Nat} (hm : X.mg "zip" = none) (ha : SD X W T [e, e2] f) (hg : Gl X "zip" := by rfl)
    (hs : starEach [e, e2] X.env = (false, eval e X.env) :: starEach [e2] X.env := by rfl) (hpl : (backTo pos (starEach [e2] X.env)).any (·.1) = false := by rfl) : SI X W T (.Tuple elts kk tpos) (.Call (.Name "zip" p) [e, e2] [] pos) (iOf zip2 f) := by
  obtain ⟨ta, pa, ea⟩ := ha.ex
  refine ⟨_, RZ.pi_zipA hg hm pa hs hpl, fun x R s p => ?_⟩
  refine ea.bind s p fun ds y f1 s1 e1 vs hv p1 => ?_
  cases q : zip2 ds with
  | none => rw [q] at p1; exact p1.elim
  | some es =>
    rw [q] at p1
    have p2 := p1 y rfl (Fr.refl T y) s1 e1
    have main : ∀ {d d2 : D} {a b : List D}, (∃ p, RepL X.K y.F p a ∧ ∃ ad, Rep X.K y.F (.ref ad) d ∧ SqL X.K y.F ad p) → True := fun _ => trivial
    match ds, hv, q with
    | [.tup a, .tup b], .cons h1 (.cons h2 .nil), q =>
      cases q
      cases h1 with
      | tup g1 r1 =>
        cases h2 with
        | tup g2 r2 => exact ⟨_, _, _, _, rfl, .inr ⟨sameT s1.sub g1, sameT s1.sub g2, p2 _ (walkZ (walk_zipT rfl) r1 r2 fun z sz ez => ⟨sameT sz.sub (sameT ez g1), sameT sz.sub (sameT ez g2)⟩)⟩⟩
    | [.lst a, .lst b], .cons h1 (.cons h2 .nil), q =>
      cases q
      cases h1 with
      | lst g1 r1 =>
        cases h2 with
        | lst g2 r2 => exact ⟨_, _, _, _, rfl, .inl ⟨SqL.of (s1.sub _ _ g1), SqL.of (s1.sub _ _ g2), p2 _ (walkZ (walk_zip rfl) r1 r2 fun z sz ez => ⟨SqL.of (sz.sub _ _ (ez _ _ g1)), SqL.of (sz.sub _ _ (ez _ _ g2))⟩)⟩⟩
    | [.scr a, .lst b], .cons h1 (.cons h2 .nil), q =>
      cases q
      cases h1 with
      | scr g1 r1 =>
        cases h2 with
        | lst g2 r2 => exact ⟨_, _, _, _, rfl, .inl ⟨s1.sub.seq g1, SqL.of (s1.sub _ _ g2), p2 _ (walkZ (walk_zip rfl) r1 r2 fun z sz ez => ⟨sz.sub.seq (ez.seq g1), SqL.of (sz.sub _ _ (ez _ _ g2))⟩)⟩⟩
    | [.lst a, .scr b], .cons h1 (.cons h2 .nil), q =>
      cases q
      cases h1 with
      | lst g1 r1 =>
        cases h2 with
        | scr g2 r2 => exact ⟨_, _, _, _, rfl, .inl ⟨SqL.of (s1.sub _ _ g1), s1.sub.seq g2, p2 _ (walkZ (walk_zip rfl) r1 r2 fun z sz ez => ⟨SqL.of (sz.sub _ _ (ez _ _ g1)), sz.sub.seq (ez.seq g2)⟩)⟩⟩
/-! ### starred items -/
def dStar (a : M D) (r : M (List D)) : M (List D) := mB a fun d => mB (mO (rowD d)) fun xs => mB r fun ds => mP (xs ++ ds)
theorem sd_star {e : Expr} {p : Pos} {es : List Expr} {fa : M D} {fr : M (List D)} (ha : SE X W T e fa) (hr : SD X W T es fr) (hs : starEach (.Starred e p :: es) X.env = (true, eval e X.env) :: starEach es X.env := by rfl) : SD X W T (.Starred e p :: es) (dStar fa fr) := by
  obtain ⟨ta, pa, ea⟩ := ha.ex
  obtain ⟨tr, pr, er⟩ := hr.ex
  refine ⟨_, StX.pa_star pa pr hs, fun x Q s p => ?_⟩
  refine ea.bind s p fun d y f1 s1 e1 v hv p1 => ?_
  cases q : rowD d with
  | none => rw [q] at p1; exact p1.elim
  | some xs =>
    rw [q] at p1
    obtain ⟨a, vs, rfl, r, h⟩ := row_cases hv q
    refine ⟨a, vs, rfl, h.elim (fun h => .inr (s1.sub.seq h)) (fun h => .inl (sameT s1.sub h)), ?_⟩
    show tr x.s y.H _
    rw [← e1]
    exact er.bind s1 p1 fun ds z f2 s2 e2 us hvs p2 => p2 z rfl (Fr.refl T z) s2 (e2.trans e1) (vs ++ us) ((r.mono f2.ff).app hvs)
/-! ### sorted, whole numbers -/
def intsD : List D → Option (List Int)
  | [] => some []
  | .int i :: r => (intsD r).map (i :: ·)
  | _ => none
def sortB : List D → Option (List D)
  | [.lst ds] => (intsD ds).map fun ns => (ns.mergeSort fun a b => decide (a ≤ b)).map .int
  | _ => none
theorem intsD_rep {F : Hp} : ∀ {vs : List V} {ds : List D} {ns : List Int}, RepL K F vs ds → intsD ds = some ns → vs = ns.map V.int ∧ ds = ns.map D.int
  | _, _, _, .nil, h => by cases h; exact ⟨rfl, rfl⟩
  | _, _, ns, .cons (d := .int i) (ds := ds) h r, q => by
    unfold intsD at q
    cases g : intsD ds with
    | none => rw [g] at q; cases q
    | some ms =>
      rw [g] at q
      cases q
      cases h
      obtain ⟨h1, h2⟩ := intsD_rep r g
      exact ⟨by rw [h1]; rfl, by rw [h2]; rfl⟩
  | _, _, ns, .cons (d := .non) h r, q => by cases q
  | _, _, ns, .cons (d := .bl _) h r, q => by cases q
  | _, _, ns, .cons (d := .str _) h r, q => by cases q
  | _, _, ns, .cons (d := .tup _) h r, q => by cases q
  | _, _, ns, .cons (d := .lst _) h r, q => by cases q
  | _, _, ns, .cons (d := .scr _) h r, q => by cases q
  | _, _, ns, .cons (d := .dct _) h r, q => by cases q
  | _, _, ns, .cons (d := .opq _) h r, q => by cases q
  | _, _, ns, .cons (d := .dfn _) h r, q => by cases q
theorem repL_ints {F : Hp} : ∀ ns : List Int, RepL K F (ns.map V.int) (ns.map D.int)
  | [] => .nil
  | n :: ns => .cons (.int n) (repL_ints ns)
theorem perm_sort : ∀ {a b : List Int}, a.Perm b → a.Pairwise (· ≤ ·) → b.Pairwise (· ≤ ·) → a = b
  | [], b, h, _, _ => (List.nil_perm.mp h).symm
  | x :: a, [], h, _, _ => absurd h (by simp)
  | x :: a, y :: b, h, h1, h2 => by
    obtain ⟨p1, p2⟩ := List.pairwise_cons.mp h1
    obtain ⟨q1, q2⟩ := List.pairwise_cons.mp h2
    have m1 : x ∈ y :: b := h.mem_iff.mp List.mem_cons_self
    have m2 : y ∈ x :: a := h.mem_iff.mpr List.mem_cons_self
    have e : x = y := by
      rcases List.mem_cons.mp m1 with z | z
      · exact z
      · rcases List.mem_cons.mp m2 with z2 | z2
        · exact z2.symm
        · have := p1 y z2
          have := q1 x z
          omega
    subst e
    rw [perm_sort (List.perm_cons x |>.mp h) p2 q2]
theorem sort_is {a b : List Int} (h : a.Perm b) (h1 : a.Pairwise (· ≤ ·)) : a = b.mergeSort fun a b => decide (a ≤ b) := by
  refine perm_sort (h.trans (List.mergeSort_perm ..).symm) h1 ?_
  have := List.pairwise_mergeSort (le := fun a b : Int => decide (a ≤ b)) (fun a b c h1 h2 => by simp at *; omega) (fun a b => by simp; omega) b
  exact this.imp fun h => by simpa using h
theorem el_sort {e : Expr} {fa : M (List D)} {p pos : Pos} (hm : X.mg "sorted" = none) (ha : SD X W T [e] fa) (hg : Gl X "sorted" := by rfl) (hv : bootBuiltins "sorted" = some (.builtin "sorted") := by decide +kernel) (hn : ("sorted" : Str) ≠ "__name__" := by decide)
    (hdb : (("sorted" : Str) == ("__debug__" : Str)) = false := by decide) (he : starEach [e] X.env = (false, eval e X.env) :: starEach [] X.env := by rfl) (hpl : (backTo pos (starEach [] X.env)).any (·.1) = false := by rfl) : SL X W T (.Call (.Name "sorted" p) [e] [] pos) (lB sortB fa) := by
  obtain ⟨ta, pa, ea⟩ := ha.ex
  refine ⟨_, pe_callB cr_sortedI hg hm hv pa hn hdb he hpl, fun x Q s p => ?_⟩
  refine ea.bind s p fun ds y f1 s1 e1 vs hv p1 => ?_
  cases q : sortB ds with
  | none => rw [q] at p1; exact p1.elim
  | some gs =>
    rw [q] at p1
    match ds, hv, q with
    | [.lst ds], .cons h1 .nil, q =>
      simp only [sortB] at q
      cases g : intsD ds with
      | none => rw [g] at q; cases q
      | some ns =>
        rw [g] at q
        cases q
        cases h1 with
        | lst g1 r1 =>
          obtain ⟨e3, e4⟩ := intsD_rep r1 g
          subst e3
          refine ⟨_, ns, rfl, SqL.of (s1.sub _ _ g1), fun ns' l hp hs hl => ?_⟩
          have ex := Ext.raw (o := .lst (ns'.map V.int)) s1 hl
          refine Post.here p1 ex s1 (ex.s.trans e1) l _ ⟨upd_same, s1.sub.free hl, ?_⟩ (f1.dm l hl) fun i k c => not_cel s1 hl i k c
          rw [sort_is hp hs]
          exact repL_ints _
/-! ### list(range(..)) -/
theorem rgV_D {F : Hp} (a b : Int) : RepL K F (rgV a b) (rgD a (b - a).toNat) := by
  unfold rgV rgD
  generalize List.range (b - a).toNat = l
  induction l with
  | nil => exact .nil
  | cons i l ih => exact .cons (.int _) ih
theorem rgOk_ok {a b : Int} (h1 : rgOk a = true) (h2 : rgOk b = true) : RgOk a b := by
  obtain ⟨h1, h3⟩ := of_decide_eq_true h1
  obtain ⟨h2, h4⟩ := of_decide_eq_true h2
  exact ⟨by omega, by omega, by omega, by omega, by omega⟩
theorem lB_one {o : List D → Option (List D)} {fa : M D} : lB o (dCons fa (mP [])) = mB fa fun d => mO (o [d]) := by
  funext r
  show mB (mB fa fun d => mB (mP []) fun ds => mP (d :: ds)) (fun ds => mO (o ds)) r = _
  unfold mB mP
  simp only
  cases fa r <;> rfl
theorem lB_two {o : List D → Option (List D)} {fa fb : M D} : lB o (dCons fa (dCons fb (mP []))) = mB fa fun d => mB fb fun e => mO (o [d, e]) := by
  funext r
  show mB (mB fa fun d => mB (mB fb fun d => mB (mP []) fun ds => mP (d :: ds)) fun ds => mP (d :: ds)) (fun ds => mO (o ds)) r = _
  unfold mB mP
  simp only
  cases fa r with
  | ok d ρ =>
    simp only
    cases fb ρ <;> rfl
  | exc c p ρ => rfl
  | bad => rfl
theorem el_lrg1 {a : Expr} {fa : M D} {p p2 pos pos2 : Pos} (hm : X.mg "list" = none) (hm2 : X.mg "range" = none) (ha : SE X W T a fa) (hc : X.calm = true := by rfl) (hg : Gl X "list" := by rfl) (hg2 : Gl X "range" := by rfl)
    (na : starEach [a] X.env = (false, eval a X.env) :: starEach [] X.env := by rfl) (nb : starEach [.Call (.Name "range" p2) [a] [] pos2] X.env = (false, eval (.Call (.Name "range" p2) [a] [] pos2) X.env) :: starEach [] X.env := by rfl) :
    SL X W T (.Call (.Name "list" p) [.Call (.Name "range" p2) [a] [] pos2] [] pos) (lB range1 (dCons fa (mP []))) := by
  obtain ⟨ta, pa, ea⟩ := ha.ex
  refine ⟨_, pe_listRg hc hg hm (prg_1 hg2 hm2 pa na) nb, fun x Q s p => ?_⟩
  rw [lB_one] at p
  refine ea.bind (k := fun d => mO (range1 [d])) s p fun d y f1 s1 e1 v hv p1 => ?_
  cases q : range1 [d] with
  | none => rw [q] at p1; exact p1.elim
  | some es =>
    rw [q] at p1
    cases d <;> try (simp [range1] at q; done)
    rename_i j
    cases hv
    simp only [range1] at q
    split at q
    · rename_i c
      cases q
      refine ⟨j, rfl, rgOk_ok (by decide) c, fun l hl => ?_⟩
      have ex := Ext.raw (o := .lst (rgV 0 j)) s1 hl
      refine Post.here p1 ex s1 (ex.s.trans e1) l _ ⟨upd_same, s1.sub.free hl, ?_⟩ (f1.dm l hl) fun i k c => not_cel s1 hl i k c
      have := rgV_D (K := X.K) (F := y.F) 0 j
      rw [Int.sub_zero] at this
      exact this
    · cases q
theorem el_lrg2 {a b : Expr} {fa fb : M D} {p p2 pos pos2 : Pos} (hm : X.mg "list" = none) (hm2 : X.mg "range" = none) (ha : SE X W T a fa) (hb : SE X W T b fb) (hc : X.calm = true := by rfl) (hg : Gl X "list" := by rfl) (hg2 : Gl X "range" := by rfl)
    (na : starEach [a, b] X.env = (false, eval a X.env) :: starEach [b] X.env := by rfl) (na2 : starEach [b] X.env = (false, eval b X.env) :: starEach [] X.env := by rfl) (hp : (backTo pos2 (starEach [b] X.env)).any (·.1) = false := by rfl)
    (nb : starEach [.Call (.Name "range" p2) [a, b] [] pos2] X.env = (false, eval (.Call (.Name "range" p2) [a, b] [] pos2) X.env) :: starEach [] X.env := by rfl) :
    SL X W T (.Call (.Name "list" p) [.Call (.Name "range" p2) [a, b] [] pos2] [] pos) (lB range2 (dCons fa (dCons fb (mP [])))) := by
  obtain ⟨ta, pa, ea⟩ := ha.ex
  obtain ⟨tb, pb, eb⟩ := hb.ex
  refine ⟨_, pe_listRg hc hg hm (prg_2 hg2 hm2 pa pb na na2 hp) nb, fun x Q s p => ?_⟩
  rw [lB_two] at p
  refine ea.bind (k := fun d => mB fb fun e => mO (range2 [d, e])) s p fun d y f1 s1 e1 v hv p1 => ?_
  show tb x.s y.H _
  rw [← e1]
  refine eb.bind s1 p1 fun e z f2 s2 e2 u hu p2 => ?_
  have e1 : z.s = x.s := e2.trans e1
  cases q : range2 [d, e] with
  | none => rw [q] at p2; exact p2.elim
  | some es =>
    rw [q] at p2
    cases d <;> try (cases e <;> simp [range2] at q <;> done)
    rename_i i
    cases e <;> try (simp [range2] at q; done)
    rename_i j
    cases hv
    cases hu
    simp only [range2] at q
    split at q
    · rename_i c
      cases q
      obtain ⟨c1, c2⟩ := Bool.and_eq_true_iff.mp c
      refine ⟨i, j, rfl, rfl, rgOk_ok c1 c2, fun l hl => ?_⟩
      have ex := Ext.raw (o := .lst (rgV i j)) s2 hl
      exact Post.here p2 ex s2 (ex.s.trans e1) l _ ⟨upd_same, s2.sub.free hl, rgV_D i j⟩ (f1.dm l (f2.dm l hl)) fun i k c => not_cel s2 hl i k c
    · cases q
/-! ### insert -/
def insC (i d : D) (ds : List D) : Option (List D) := match i with
  | .int n => if decide (ds.length < most ∧ 0 ≤ n ∧ n < 1000000) then some (ds.take n.toNat ++ [d] ++ ds.drop n.toNat) else none
  | _ => none
def sIns (j : Nat) (ma mb : M D) : M Fl := mB (hasC j) fun _ => mB ma fun i => mB mb fun d => mB (updc j (insC i d)) fun _ => mP .nx
theorem ss_ins (j : Nat) {x : Str} {e e2 : Expr} {f f2 : M D} {p1 apos cpos pos : Pos} (he : SE X W T e f) (he2 : SE X W T e2 f2) (hN : X.N[j]? = some x := by rfl) (hv : Vis X.env.scope x := by first | exact Or.inl rfl | exact Or.inr (Or.inl rfl) | exact Or.inr (Or.inr rfl)) (hT : j ∈ T := by decide)
    (hd : (x == ("__debug__" : Str)) = false := by decide) (hc : (x == ("__classdict__" : Str)) = false := by decide)
    (hbase : attributeBase (.Name x p1) "insert" X.env (eval (.Name x p1) X.env) = eval (.Name x p1) X.env := by rfl)
    (hfew : ((backTo cpos (starEach [e, e2] X.env)).all (fun x => !x.1) && (backToKw cpos (keywordEach [] X.env)).all (fun x => x.1.isSome) && decide ([e, e2].length + ([] : List Keyword).length + (if ([] : List Keyword).isEmpty then 0 else 1) < 30)) = true := by rfl)
    (hline : (apos.endLine == cpos.line) = true := by rfl) (hst : starEach [e, e2] X.env = (false, eval e X.env) :: starEach [e2] X.env := by rfl) (hst2 : starEach [e2] X.env = (false, eval e2 X.env) :: starEach [] X.env := by rfl) (hpl : (backTo cpos (starEach [e2] X.env)).any (·.1) = false := by rfl)
    (hs : swapsWith (.Call (.Attribute (.Name x p1) "insert" apos) [e, e2] [] cpos) none pos.line X.env = pure false := by rfl) : SS X W T (.Expr (.Call (.Attribute (.Name x p1) "insert" apos) [e, e2] [] cpos) pos) (sIns j f f2) := by
  obtain ⟨te, pe, ev⟩ := he.ex
  obtain ⟨te2, pe2, ev2⟩ := he2.ex
  refine ⟨_, ps_expr (pe_bm PySem.F.plainAttrs_list PySem.F.slot_list_insert PySem.F.type_list_insert mt_insert (pe_var (i := j) hN hv hd hc) (pa_cons pe (pa_cons pe2 pa_nil hst2) hst) hbase hfew hline hst hpl) hs, fun x Dn s p => ?_⟩
  obtain ⟨⟨k, ds, q, us, e0, hs, hq⟩, p1⟩ := hasC_run s p
  refine ⟨_, hs, .inl ⟨rfl, _, SqL.of hq⟩, ?_⟩
  refine ev.bind s p1 fun i y f1 s1 e1 vi hvi p2 => ?_
  show te2 x.s y.H _
  rw [← e1]
  refine ev2.bind s1 p2 fun d z fz sz ez v hv p3 => ?_
  have e3 : z.s = x.s := ez.trans e1
  obtain ⟨k2, ds2, es, q2, us2, h1, h2, h3, h4, h5⟩ := updc_run sz hT p3
  rw [e3, hs] at h1
  cases h1
  obtain ⟨n, rfl⟩ : ∃ n, i = .int n := by cases i <;> first | exact ⟨_, rfl⟩ | cases h4
  simp only [insC] at h4
  by_cases c : decide (ds2.length < most ∧ 0 ≤ n ∧ n < 1000000) = true
  · rw [if_pos c] at h4
    cases h4
    obtain ⟨c1, c2, c3⟩ := of_decide_eq_true c
    cases hvi
    obtain ⟨a, b, g⟩ := h5 (us2.take n.toNat ++ [v] ++ us2.drop n.toNat) (((h3.take _).app (.cons hv .nil)).app (h3.drop _))
    refine ⟨q, us2, n, v, rfl, rfl, h2, by rw [h3.length]; exact Nat.lt_of_lt_of_le c1 most_line, c2, by omega, ?_⟩
    have := g _ rfl (Fr.refl T _) a
    show Dn.nx y.s _
    rw [e1, ← e3]
    exact this
  · rw [if_neg c] at h4
    cases h4
/-! ### a fresh list handed on to a def that changes it -/
def allP : List PIt → Option (List D)
  | [] => some []
  | .val d :: r => (allP r).map (d :: ·)
  | .new _ :: _ => none
def splitP : List PIt → Option (List D × List D × List D)
  | [] => none
  | .val d :: r => (splitP r).map fun t => (d :: t.1, t.2.1, t.2.2)
  | .new l :: r => (allP r).map fun ds => ([], l, ds)
theorem allP_rep {x y : Cf} : ∀ {vs : List V} {is : List PIt} {as : List Addr} {ds : List D}, ItsR K x y vs is as → allP is = some ds → RepL K y.F vs ds
  | _, _, _, _, .nil, h => by cases h; exact .nil
  | _, _, _, _, .val (d := d) (is := is) h r, q => by
    simp only [allP] at q
    cases g : allP is with
    | none => rw [g] at q; cases q
    | some es => rw [g] at q; cases q; exact .cons h (allP_rep r g)
  | _, _, _, _, .new _ _ _ _ _, q => by cases q
theorem splitP_rep {x y : Cf} : ∀ {vs : List V} {is : List PIt} {as : List Addr} {pre l post : List D}, ItsR K x y vs is as → splitP is = some (pre, l, post) →
    ∃ vs1 q us vs2, vs = vs1 ++ V.ref q :: vs2 ∧ RepL K y.F vs1 pre ∧ RepL K y.F vs2 post ∧ FreshAt K y q us l ∧ x.H q = none ∧ ∀ i k, ¬ CelAt y i k q
  | _, _, _, _, _, _, .nil, h => by cases h
  | _, _, _, _, _, _, .val (v := v) (d := d) (is := is) h r, q => by
    simp only [splitP] at q
    cases g : splitP is with
    | none => rw [g] at q; cases q
    | some t =>
      rw [g] at q
      obtain ⟨t1, t2, t3⟩ := t
      cases q
      obtain ⟨vs1, w, us, vs2, e, h1, h2, h3⟩ := splitP_rep r g
      exact ⟨v :: vs1, w, us, vs2, by rw [e]; rfl, .cons h h1, h2, h3⟩
  | _, _, _, _, _, _, .new (p := p) (us := us) (vs := vs) (is := is) h1 h2 h3 h4 r, q => by
    simp only [splitP] at q
    cases g : allP is with
    | none => rw [g] at q; cases q
    | some es =>
      rw [g] at q
      cases q
      exact ⟨[], p, us, vs, rfl, .nil, allP_rep r g, h1, h2, h3⟩
def callN (np i : Nat) (F : List Ent → R D) (m : M (List PIt)) : M D := mB m fun is r => match splitP is with
  | some (pre, l, post) => if decide (is.length = np ∧ pre.length = i) then (match F (ioArgs pre l post) with
    | .ok d [.cel .io _] => .ok d r
    | .exc c pl [.cel .io _] => .exc c pl r
    | _ => .bad) else .bad
  | none => .bad
theorem io_backN {x y z : Cf} {i : Nat} {l pre post : List D} {vs : List V} {q : Addr} {us : List V} (hy : Fr T x y) (s : RSt K y) (hx : x.H q = none) (hp : y.H q = some (.lst us)) (fq : y.F q = none) (nc : ∀ i k, ¬ CelAt y i k q)
    (hi : pre.length = i) (hvi : vs[i]? = some (.ref q)) (f : Fr [i] ⟨y.F, y.H, vs.map some, ioArgs pre l post⟩ z) (sz : RSt K z) :
    Fr T x ⟨z.F, z.H, y.s, y.r⟩ ∧ RSt K ⟨z.F, z.H, y.s, y.r⟩ := by
  have celx : ∀ a k p, CelAt ⟨y.F, y.H, vs.map some, ioArgs pre l post⟩ a k p → a = i ∧ k = .io ∧ p = q := by
    rintro a k p ⟨⟨gs, h1⟩, h2⟩
    rcases ioArgs_get h1 with ⟨d, _, e, _⟩ | ⟨e1, e2⟩ | ⟨b, d, _, _, e⟩
    · cases e
    · cases e2
      have h2' : (vs.map some)[a]? = some (some (V.ref p)) := h2
      rw [e1, hi, List.getElem?_map, hvi] at h2'
      cases h2'
      exact ⟨by omega, rfl, rfl⟩
    · cases e
  have nF : ∀ p, y.H p ≠ none → y.F p = none → p ≠ q → z.F p = none := fun p h3 h4 ne => by
    cases w : z.F p with
    | none => rfl
    | some o =>
      rcases f.nw p o w with ⟨u, g2⟩ | g2 | ⟨b, g2⟩
      · have g3 : y.F p = some u := g2
        rw [h4] at g3; cases g3
      · exact (h3 g2).elim
      · exact (ne (celx b _ p g2).2.2).elim
  refine ⟨⟨hy.ln, hy.ff.trans f.ff, fun a h => hy.dm a (f.dm a h), fun a o h => ?_, fun a o h n => ?_, hy.cc, hy.un⟩, ⟨sz.sub, s.len, fun a d e => ?_, fun a k gs e => ?_, s.dis⟩⟩
  · rcases f.nw a o h with ⟨u, g⟩ | g | ⟨b, g⟩
    · exact hy.nw a u g
    · exact .inr (.inl (hy.dm a g))
    · have := (celx b _ a g).2.1
      cases this
  · have h2 := hy.hp a o h n
    refine f.hp a o h2 fun b _ k c => ?_
    have := (celx b k a c).2.2
    rw [this, hx] at h
    cases h
  · obtain ⟨v, h1, h2⟩ := s.val a d e
    exact ⟨v, h1, h2.mono f.ff⟩
  · obtain ⟨p, h1, ws, h2, h3, h4⟩ := s.cel a k gs e
    have ne : p ≠ q := fun z => nc a k ⟨⟨gs, e⟩, by rw [← z]; exact h1⟩
    exact ⟨p, h1, ws, h2.mono f.ff, f.hp p _ h3 (fun b _ k' c => ne (celx b k' p c).2.2), nF p (by rw [h3]; exact fun z => nomatch z) h4 ne⟩
theorem itsR_len {x y : Cf} {vs : List V} {is : List PIt} {as : List Addr} (h : ItsR K x y vs is as) : vs.length = is.length := by
  induction h with
  | nil => rfl
  | val _ _ ih => exact congrArg (· + 1) ih
  | new _ _ _ _ _ ih => exact congrArg (· + 1) ih
theorem ev_callN {np i : Nat} {F : List Ent → R D} {ta : TA} {fa : M (List PIt)} (ea : EvP X W T ta fa) : EvE X W T (tCallSD (SpF X.K X.mg (some i) false np F) [] (WE W) ta) (callN np i F fa) := by
  intro x Q s p
  refine ea x _ s ?_
  unfold callN mB at p
  cases e0 : fa x.r with
  | exc c pl ρ => simp only [e0] at p; exact p
  | bad => simp only [e0] at p; exact p
  | ok is ρ =>
    simp only [e0] at p
    intro y hy fy s1 e1 vs as hv
    rw [← hy] at p
    rw [List.append_nil]
    cases q0 : splitP is with
    | none => simp only [q0] at p; exact p.elim
    | some t =>
      obtain ⟨pre, l, post⟩ := t
      simp only [q0] at p
      by_cases c : decide (is.length = np ∧ pre.length = i) = true
      case neg => rw [if_neg c] at p; exact p.elim
      rw [if_pos c] at p
      obtain ⟨c1, c2⟩ := of_decide_eq_true c
      obtain ⟨vs1, q, us, vs2, rfl, r1, r2, ⟨h3, h4, h2⟩, hxq, hnc⟩ := splitP_rep hv q0
      have lv : (vs1 ++ V.ref q :: vs2).length = np := by rw [itsR_len hv]; exact c1
      have hvi : (vs1 ++ V.ref q :: vs2)[i]? = some (.ref q) := by
        rw [← c2, ← r1.length, List.getElem?_append_right (Nat.le_refl _), Nat.sub_self]; rfl
      have celx : ∀ a k p, CelAt ⟨y.F, y.H, (vs1 ++ V.ref q :: vs2).map some, ioArgs pre l post⟩ a k p → some i = some a ∧ k = .io := by
        rintro a k p ⟨⟨gs, g1⟩, g2⟩
        rcases ioArgs_get g1 with ⟨d, _, e, _⟩ | ⟨e1, e2⟩ | ⟨b, d, _, _, e⟩
        · cases e
        · cases e2
          exact ⟨by rw [e1, c2], rfl⟩
        · cases e
      have sx : RSt X.K ⟨y.F, y.H, (vs1 ++ V.ref q :: vs2).map some, ioArgs pre l post⟩ := by
        refine ⟨s1.sub, ?_, fun a d h => ?_, fun a k gs h => ?_, fun a b k l p cc cc' => ?_⟩
        · show ((vs1 ++ V.ref q :: vs2).map some).length = (ioArgs pre l post).length
          unfold ioArgs valsOf
          simp [r1.length, r2.length]
        · rcases ioArgs_get h with ⟨d', g1, e, g2⟩ | ⟨_, e2⟩ | ⟨b, d', g0, g1, e⟩
          · cases e
            obtain ⟨v, g3, g4⟩ := r1.get g1
            refine ⟨v, ?_, g4⟩
            show ((vs1 ++ V.ref q :: vs2).map some)[a]? = _
            rw [List.getElem?_map, List.getElem?_append_left (by rw [r1.length]; exact g2), g3]; rfl
          · cases e2
          · cases e
            obtain ⟨v, g3, g4⟩ := r2.get g1
            refine ⟨v, ?_, g4⟩
            show ((vs1 ++ V.ref q :: vs2).map some)[a]? = _
            rw [List.getElem?_map, g0, List.getElem?_append_right (by rw [r1.length]; omega), r1.length, show pre.length + 1 + b - pre.length = b + 1 by omega]
            show ((vs2[b]?).map some) = _
            rw [g3]; rfl
        · rcases ioArgs_get h with ⟨d', _, e, _⟩ | ⟨e1, e2⟩ | ⟨b, d', _, _, e⟩
          · cases e
          · cases e2
            refine ⟨q, ?_, us, h2, h3, h4⟩
            show ((vs1 ++ V.ref q :: vs2).map some)[a]? = _
            rw [List.getElem?_map, e1, c2, hvi]; rfl
          · cases e
        · have e1 := (celx a k p cc).1
          have e2 := (celx b l p cc').1
          have e3 := e1.symm.trans e2
          exact Option.some.inj e3
      refine ⟨lv, ⟨y.F, y.H, (vs1 ++ V.ref q :: vs2).map some, ioArgs pre l post⟩, rfl, rfl, sx, celx, ?_⟩
      show PostF X.K X.mg (some i) false _ (F (ioArgs pre l post)) Q _
      cases q2 : F (ioArgs pre l post) with
      | bad => simp only [q2] at p; exact p.elim
      | exc cn pl o =>
        match o, q2 with
        | [.cel .io es], q2 =>
          simp only [q2] at p
          intro z cls dx zs zr fz sz w
          obtain ⟨a1, a2⟩ := io_backN fy s1 hxq h3 h4 hnc c2 hvi fz sz
          have := p ⟨z.F, z.H, y.s, y.r⟩ cls dx rfl a1 a2 w
          rw [show (⟨z.F, z.H, y.s, y.r⟩ : Cf).s = x.s from e1] at this
          exact this
        | [], q2 => simp only [q2] at p; exact p.elim
        | [.no], q2 => simp only [q2] at p; exact p.elim
        | [.val _], q2 => simp only [q2] at p; exact p.elim
        | [.cel .own _], q2 => simp only [q2] at p; exact p.elim
        | _ :: _ :: _, q2 => simp only [q2] at p; exact p.elim
      | ok d o =>
        match o, q2 with
        | [.cel .io es], q2 =>
          simp only [q2] at p
          intro z zs zr fz sz v hv2
          obtain ⟨a1, a2⟩ := io_backN fy s1 hxq h3 h4 hnc c2 hvi fz sz
          exact p ⟨z.F, z.H, y.s, y.r⟩ rfl a1 a2 e1 v hv2
        | [], q2 => simp only [q2] at p; exact p.elim
        | [.no], q2 => simp only [q2] at p; exact p.elim
        | [.val _], q2 => simp only [q2] at p; exact p.elim
        | [.cel .own _], q2 => simp only [q2] at p; exact p.elim
        | _ :: _ :: _, q2 => simp only [q2] at p; exact p.elim
theorem se_callN {x : Str} {st : Stmt} {ps : List Str} {k : Nat} {F : List Ent → R D} {e : Expr} {es : List Expr} {p pos : Pos} {np : Nat} {i : Nat} (G : DefOk X.prog X.w X.K X.mg X.base x st ps k (some i) false F) (hr : Room k X.A) (tk : Takes X W) {fa : M (List PIt)} (ha : SP' X W T (e :: es) fa) (hg : Gl X x := by rfl) (hdb : (x == ("__debug__" : Str)) = false := by decide)
    (he : starEach (e :: es) X.env = (false, eval e X.env) :: starEach es X.env := by rfl) (hpl : (backTo pos (starEach es X.env)).any (·.1) = false := by rfl) (hn : ps.length = np := by rfl) : SE X W T (.Call (.Name x p) (e :: es) [] pos) (callN np i F fa) := by
  subst hn
  obtain ⟨f, fd, hm, hk, _, FO, hb⟩ := G.ex
  obtain ⟨ta, pa, ea⟩ := ha.ex
  exact ⟨_, pe_callSD FO hr hg hm hk hb .nil (fun σ => passAt tk σ) pa hdb he hpl, ev_callN ea⟩
/-! ### several names from a display, where one name is a cell: by a tuple -/
theorem ItsR.tup {x y : Cf} {t : Addr} {vs us : List V} {is : List PIt} {as : List Addr} (ht : y.H t = none) (r : ItsR K x y vs is as) : ItsR K x ⟨y.F, upd y.H t (.tup us), y.s, y.r⟩ vs is as := by
  induction r with
  | nil => exact .nil
  | val h _ ih => exact .val h ih
  | new h1 h2 h3 h4 _ ih => exact .new ⟨(upd_ne (ne_of_none h1.1 ht)).trans h1.1, h1.2.1, h1.2.2⟩ h2 h3 h4 ih
theorem tupN_run {js : List Nat} {m : M (List PIt)} {ta : TA} {z : Cf} {Dn : Ends} (ea : EvP X W T ta m) (s : RSt X.K z) (hT : ∀ l ∈ js, l ∈ T) (p : Post X.K X.mg T W z (sParN js m z.r) (SQ X.K z Dn)) {Q : List V → Hp → Prop}
    (n : ∀ (vs : List V) (y : Cf), vs.length = js.length → vs.length ≤ most → (∀ t, y.H t = none → Dn.nx (setSs z.s js vs) (upd y.H t (.tup vs))) → Q vs y.H) (hl : js.length ≤ most) : ta z.s z.H Q := by
  refine ea z _ s ?_
  unfold sParN mB at p
  cases e0 : m z.r with
  | exc c pl ρ => simp only [e0] at p; exact p
  | bad => simp only [e0] at p; exact p
  | ok is ρ =>
    simp only [e0] at p
    intro y hy f1 s1 e1 vs as hv
    rw [← hy] at p
    obtain ⟨w, a1, a2, a3, a4, a5, a6⟩ := setIts_run (m := mP Fl.nx) s1 f1 hv hT p
    refine n vs y a6.symm (by rw [← a6]; exact hl) fun t ht => ?_
    have ex := Ext.raw (o := .tup vs) s1 ht
    obtain ⟨w, a1, a2, a3, a4, a5, a6⟩ := setIts_run (y := ⟨y.F, upd y.H t (.tup vs), y.s, y.r⟩) (m := mP Fl.nx) (ex.rst s1) (f1.trans (ex.fr T)) (hv.tup ht) hT p
    have h : Dn.nx w.s w.H := a5 w rfl a4 a3
    rw [a1, a2] at h
    rw [← e1]
    exact h
theorem ss_tupN2 (i j : Nat) {x y : Str} {a b : Expr} {m : M (List PIt)} {px py pt pos : Pos} {kt k2 pt2} (hc : X.calm = true) (hN : X.N.Nodup) (ha : SP' X W T [a, b] m) (hw : swappedStores [.Tuple [.Name x px, .Name y py] kt pt] (.Tuple [a, b] k2 pt2) X.env = pure none)
    (hi : X.N[i]? = some x := by rfl) (hj : X.N[j]? = some y := by rfl) (hx : Loc X.env.scope x := by first | exact Or.inl rfl | exact Or.inr rfl) (hy : Loc X.env.scope y := by first | exact Or.inl rfl | exact Or.inr rfl) (hT : ∀ l ∈ [i, j], l ∈ T := by decide)
    (hfx : X.fn x = true ∨ X.env.scope.names.lookup x = some .local := by first | exact .inl rfl | exact .inr rfl) (hfy : X.fn y = true ∨ X.env.scope.names.lookup y = some .local := by first | exact .inl rfl | exact .inr rfl)
    (hs : swapsWithSole [.Tuple [.Name x px, .Name y py] kt pt] (.Tuple [a, b] k2 pt2) pos.line X.env = pure false := by rfl)
    (h1 : (assignEach [.Tuple [.Name x px, .Name y py] kt pt] X.env).map (·.2) = [assign (.Tuple [.Name x px, .Name y py] kt pt) X.env] := by rfl)
    (hn : (assignEach [.Name x px, .Name y py] X.env).length = 2 := by rfl) (hst : (assignEach [.Name x px, .Name y py] X.env).findIdx? (·.1) = none := by rfl)
    (g1 : (assignEach [.Name x px, .Name y py] X.env).map (·.2) = assign (.Name x px) X.env :: (assignEach [.Name y py] X.env).map (·.2) := by rfl) (g2 : (assignEach [.Name y py] X.env).map (·.2) = assign (.Name y py) X.env :: (assignEach [] X.env).map (·.2) := by rfl) : SS X W T (.Assign [.Tuple [.Name x px, .Name y py] kt pt] (.Tuple [a, b] k2 pt2) pos) (sParN [i, j] m) := by
  obtain ⟨ta, pa, ea⟩ := ha.ex
  refine ⟨_, ps_asg (pe_tup pa) (pg_tup hc (pgs_cons (pg_name hN hi hx hfx) (pgs_cons (pg_name hN hj hy hfy) pgs_nil g2) g1) hn hst) hs hw h1, fun z Dn s p => ?_⟩
  refine tupN_run ea s hT p (fun vs y hl hm q => ?_) (by simp only [List.length_cons, List.length_nil]; decide)
  match vs, hl with
  | [v, u], _ => exact ⟨by exact of_most (decide_eq_true hm), fun t ht => ⟨t, _, rfl, .inl (.inl upd_same), rfl, v, [u], rfl, u, [], rfl, rfl, q t ht⟩⟩
theorem ss_tupN3 (i j l : Nat) {x y w : Str} {a b c : Expr} {m : M (List PIt)} {px py pw pt pos : Pos} {kt k2 pt2} (hc : X.calm = true) (hN : X.N.Nodup) (ha : SP' X W T [a, b, c] m) (hw : swappedStores [.Tuple [.Name x px, .Name y py, .Name w pw] kt pt] (.Tuple [a, b, c] k2 pt2) X.env = pure none)
    (hi : X.N[i]? = some x := by rfl) (hj : X.N[j]? = some y := by rfl) (hk : X.N[l]? = some w := by rfl) (hx : Loc X.env.scope x := by first | exact Or.inl rfl | exact Or.inr rfl) (hy : Loc X.env.scope y := by first | exact Or.inl rfl | exact Or.inr rfl) (hz : Loc X.env.scope w := by first | exact Or.inl rfl | exact Or.inr rfl) (hT : ∀ n ∈ [i, j, l], n ∈ T := by decide)
    (hfx : X.fn x = true ∨ X.env.scope.names.lookup x = some .local := by first | exact .inl rfl | exact .inr rfl) (hfy : X.fn y = true ∨ X.env.scope.names.lookup y = some .local := by first | exact .inl rfl | exact .inr rfl) (hfw : X.fn w = true ∨ X.env.scope.names.lookup w = some .local := by first | exact .inl rfl | exact .inr rfl)
    (hs : swapsWithSole [.Tuple [.Name x px, .Name y py, .Name w pw] kt pt] (.Tuple [a, b, c] k2 pt2) pos.line X.env = pure false := by rfl)
    (h1 : (assignEach [.Tuple [.Name x px, .Name y py, .Name w pw] kt pt] X.env).map (·.2) = [assign (.Tuple [.Name x px, .Name y py, .Name w pw] kt pt) X.env] := by rfl)
    (hn : (assignEach [.Name x px, .Name y py, .Name w pw] X.env).length = 3 := by rfl) (hst : (assignEach [.Name x px, .Name y py, .Name w pw] X.env).findIdx? (·.1) = none := by rfl)
    (g1 : (assignEach [.Name x px, .Name y py, .Name w pw] X.env).map (·.2) = assign (.Name x px) X.env :: (assignEach [.Name y py, .Name w pw] X.env).map (·.2) := by rfl) (g2 : (assignEach [.Name y py, .Name w pw] X.env).map (·.2) = assign (.Name y py) X.env :: (assignEach [.Name w pw] X.env).map (·.2) := by rfl) (g3 : (assignEach [.Name w pw] X.env).map (·.2) = assign (.Name w pw) X.env :: (assignEach [] X.env).map (·.2) := by rfl) : SS X W T (.Assign [.Tuple [.Name x px, .Name y py, .Name w pw] kt pt] (.Tuple [a, b, c] k2 pt2) pos) (sParN [i, j, l] m) := by
  obtain ⟨ta, pa, ea⟩ := ha.ex
  refine ⟨_, ps_asg (pe_tup pa) (pg_tup hc (pgs_cons (pg_name hN hi hx hfx) (pgs_cons (pg_name hN hj hy hfy) (pgs_cons (pg_name hN hk hz hfw) pgs_nil g3) g2) g1) hn hst) hs hw h1, fun z Dn s p => ?_⟩
  refine tupN_run ea s hT p (fun vs y hl hm q => ?_) (by simp only [List.length_cons, List.length_nil]; decide)
  match vs, hl with
  | [v, u, o], _ => exact ⟨by exact of_most (decide_eq_true hm), fun t ht => ⟨t, _, rfl, .inl (.inl upd_same), rfl, v, [u, o], rfl, u, [o], rfl, o, [], rfl, rfl, q t ht⟩⟩
end
end FL
namespace FL
open PySem PySem.Spec L2
/-- is_whole(value): slots value -/
def B_is_whole : M Fl := (sRet (xAnd (xB isB (dCons (xVar 0) (dCons (xC (.opq (.ty "int"))) (mP [])))) (xNot (xB isB (dCons (xVar 0) (dCons (xC (.opq (.ty "bool"))) (mP [])))))))
def F_is_whole : List Ent → R D := defF none false 1 B_is_whole
/-- is_between(value, low, high): slots value, low, high -/
def B_is_between : M Fl := (sRet (xAnd (callD 1 F_is_whole (dCons (xVar 0) (mP []))) (xChain leD leD (xVar 1) (xVar 0) (xVar 2))))
def F_is_between : List Ent → R D := defF none false 3 B_is_between
/-- is_tuple_of(value, many): slots value, many -/
def B_is_tuple_of : M Fl := (sRet (xAnd (xB isB (dCons (xVar 0) (dCons (xC (.opq (.ty "tuple"))) (mP [])))) (x2 eqD (xB lenB (dCons (xVar 0) (mP []))) (xVar 1))))
def F_is_tuple_of : List Ent → R D := defF none false 2 B_is_tuple_of
/-- is_value_by(value): slots value -/
def B_is_value_by : M Fl := (sRet (xAnd (callD 2 F_is_tuple_of (dCons (xVar 0) (dCons (xC (.int 2)) (mP [])))) (xAnd (callD 3 F_is_between (dCons (x2 ixD (xVar 0) (xC (.int 0))) (dCons (x1 negD (xC (.int 9999))) (dCons (xC (.int 9999)) (mP []))))) (callD 3 F_is_between (dCons (x2 ixD (xVar 0) (xC (.int 1))) (dCons (xC (.int 1)) (dCons (xC (.int 999)) (mP []))))))))
def F_is_value_by : List Ent → R D := defF none false 1 B_is_value_by
/-- first_wrong__is_value_by(value, fewest, most, is_right): slots value, fewest, most, is_right, index, each -/
def B_first_wrong__is_value_by : M Fl := (sSeq (sIf (tOrM (tNotM (mTru (xB isB (dCons (xVar 0) (dCons (xC (.opq (.ty "tuple"))) (mP [])))))) (tNotM (mT (xChain leD leD (xVar 1) (xB lenB (dCons (xVar 0) (mP []))) (xVar 2))))) (sRet (xFz (lLst (dCons (xC .non) (mP []))))) (mP .nx)) (sRet (xCut (xFz (lComp [4, 5] (iOf enum1 (dCons (xVar 0) (mP []))) (gsTup 2 (gsCons (setv 4) (gsCons (setv 5) gsNil))) (tNotM (mTru (callP 3 "is_value_by" 1 F_is_value_by (dCons (xVar 5) (mP []))))) (xVar 4))) (mP none) (oInt (xC (.int 1))))))
def F_first_wrong__is_value_by : List Ent → R D := defF none false 6 B_first_wrong__is_value_by
/-- fraction(number, under): slots number, under, part -/
def B_fraction : M Fl := (sSeq (sSet 2 (x2 mulD (xB gcdB (dCons (xVar 0) (dCons (xVar 1) (mP [])))) (xIf (mT (x2 gtD (xVar 1) (xC (.int 0)))) (xC (.int 1)) (x1 negD (xC (.int 1)))))) (sRet (xTup (dCons (x2 divD (xVar 0) (xVar 2)) (dCons (x2 divD (xVar 1) (xVar 2)) (mP []))))))
def F_fraction : List Ent → R D := defF none false 3 B_fraction
/-- is_less(one, two): slots one, two -/
def B_is_less : M Fl := (sRet (x2 ltD (x2 mulD (x2 ixD (xVar 0) (xC (.int 0))) (x2 ixD (xVar 1) (xC (.int 1)))) (x2 mulD (x2 ixD (xVar 1) (xC (.int 0))) (x2 ixD (xVar 0) (xC (.int 1))))))
def F_is_less : List Ent → R D := defF none false 2 B_is_less
/-- greater_of(one, two): slots one, two -/
def B_greater_of : M Fl := (sRet (xIf (mTru (callD 2 F_is_less (dCons (xVar 0) (dCons (xVar 1) (mP []))))) (xVar 1) (xVar 0)))
def F_greater_of : List Ent → R D := defF none false 2 B_greater_of
/-- lesser_of(one, two): slots one, two -/
def B_lesser_of : M Fl := (sRet (xIf (mTru (callD 2 F_is_less (dCons (xVar 1) (dCons (xVar 0) (mP []))))) (xVar 1) (xVar 0)))
def F_lesser_of : List Ent → R D := defF none false 2 B_lesser_of
/-- greatest_of(some): slots some, found, each -/
def B_greatest_of : M Fl := (sSeq (sSet 1 (x2 ixD (xVar 0) (xC (.int 0)))) (sSeq (sFor (iRow (xCut (xVar 0) (oInt (xC (.int 1))) (mP none))) (setv 2) (sSet 1 (callD 2 F_greater_of (dCons (xVar 1) (dCons (xVar 2) (mP [])))))) (sRet (xVar 1))))
def F_greatest_of : List Ent → R D := defF none false 3 B_greatest_of
/-- least_of(some): slots some, found, each -/
def B_least_of : M Fl := (sSeq (sSet 1 (x2 ixD (xVar 0) (xC (.int 0)))) (sSeq (sFor (iRow (xCut (xVar 0) (oInt (xC (.int 1))) (mP none))) (setv 2) (sSet 1 (callD 2 F_lesser_of (dCons (xVar 1) (dCons (xVar 2) (mP [])))))) (sRet (xVar 1))))
def F_least_of : List Ent → R D := defF none false 3 B_least_of
/-- wrong_in_values(value): slots value -/
def B_wrong_in_values : M Fl := (sRet (callD 4 F_first_wrong__is_value_by (dCons (xVar 0) (dCons (xC (.int 1)) (dCons (xC (.int 9)) (dCons (xC (.dfn "is_value_by")) (mP [])))))))
def F_wrong_in_values : List Ent → R D := defF none false 1 B_wrong_in_values
/-- mean_by(values, one, two): slots values, one, two, part, number, weight, _ -/
def B_mean_by : M Fl := (sSeq (sSet 3 (xCut (xVar 0) (oInt (xVar 1)) (oInt (x2 addD (xVar 2) (xC (.int 1)))))) (sRet (callD 2 F_fraction (dCons (xB sumB (dCons (xFz (lComp [4, 5] (iRow (xVar 3)) (gsTup 2 (gsCons (setv 4) (gsCons (setv 5) gsNil))) (mP true) (x2 mulD (xVar 4) (xVar 5)))) (mP []))) (dCons (xB sumB (dCons (xFz (lComp [6, 5] (iRow (xVar 3)) (gsTup 2 (gsCons (setv 6) (gsCons (setv 5) gsNil))) (mP true) (xVar 5))) (mP []))) (mP []))))))
def F_mean_by : List Ent → R D := defF none false 7 B_mean_by
/-- least_mean(values, one, at): slots values, one, at, two -/
def B_least_mean : M Fl := (sRet (callD 1 F_least_of (dCons (xFz (lComp [3] (iOf range2 (dCons (xVar 2) (dCons (xB lenB (dCons (xVar 0) (mP []))) (mP [])))) (setv 3) (mP true) (callD 3 F_mean_by (dCons (xVar 0) (dCons (xVar 1) (dCons (xVar 3) (mP []))))))) (mP []))))
def F_least_mean : List Ent → R D := defF none false 4 B_least_mean
/-- rising_by(values): slots values, places, at, one -/
def B_rising_by : M Fl := (sSeq (sSet 1 (xFz (lB range1 (dCons (xB lenB (dCons (xVar 0) (mP []))) (mP []))))) (sRet (xB tupB (dCons (xFz (lComp [2] (iRow (xVar 1)) (setv 2) (mP true) (callD 1 F_greatest_of (dCons (xFz (lComp [3] (iOf range1 (dCons (x2 addD (xVar 2) (xC (.int 1))) (mP []))) (setv 3) (mP true) (callD 3 F_least_mean (dCons (xVar 0) (dCons (xVar 3) (dCons (xVar 2) (mP []))))))) (mP []))))) (mP [])))))
def F_rising_by : List Ent → R D := defF none false 4 B_rising_by
/-- check_values(value): slots value, index -/
def B_check_values : M Fl := (sFor (iRow (callD 1 F_wrong_in_values (dCons (xVar 0) (mP [])))) (setv 1) sBad)
def F_check_values : List Ent → R D := defF none false 2 B_check_values
/-- rising(values): slots values -/
def B_rising : M Fl := (sSeq (sExpr (callD 1 F_check_values (dCons (xVar 0) (mP [])))) (sRet (callD 1 F_rising_by (dCons (xVar 0) (mP [])))))
def F_rising : List Ent → R D := defF none false 1 B_rising
/-- _law_pool(script, k): slots script, k, cell, size, stir -/
def B__law_pool : M Fl := (sSeq (sSet 2 (x2 addD (x2 mulD (xC (.int 7)) (xVar 1)) (x2 mulD (xC (.int 3)) (xB lenB (dCons (xVar 0) (mP [])))))) (sSeq (sIf (mT (x2 ltD (xVar 1) (xB lenB (dCons (xVar 0) (mP []))))) (sSet 2 (x2 ixD (xVar 0) (xVar 1))) (mP .nx)) (sSeq (sSet 3 (xB absB (dCons (xVar 2) (mP [])))) (sSeq (sSet 4 (x2 modD (xB intB (dCons (x2 addD (x2 addD (x2 addD (x2 mulD (xVar 3) (xC (.int 48271))) (x2 mulD (xC (.int 16807)) (xVar 1))) (x2 mulD (xC (.int 11)) (xB intB (dCons (x2 ltD (xVar 2) (xC (.int 0))) (mP []))))) (xC (.int 1))) (mP []))) (xC (.int 2305843009213693951)))) (sSeq (sIf (mT (x2 geD (xVar 3) (xC (.int 1000000000000000000)))) (sRetL (lLst (dCons (x2 addD (x2 mulD (xC (.int 2)) (x2 subD (xVar 3) (xC (.int 1000000000000000000)))) (xB intB (dCons (x2 ltD (xVar 2) (xC (.int 0))) (mP [])))) (dCons (xVar 4) (mP []))))) (mP .nx)) (sRetL (lLst (dCons (xC (.int 0)) (dCons (xVar 4) (mP []))))))))))
def F__law_pool : List Ent → R D := defF none true 5 B__law_pool
/-- _law_take(pool, many): slots pool, many, told, reach -/
def B__law_take : M Fl := (sSeq (sIf (mT (x2 gtD (lend [] 0 noLst (x2 ixD (xVar 0) (xC (.int 0)))) (xC (.int 1)))) (sSeq (sSet 2 (x2 modD (xB intB (dCons (lend [] 0 noLst (x2 ixD (xVar 0) (xC (.int 0)))) (mP []))) (xVar 1))) (sSeq (sAsg (x2 divD (lend [] 0 noLst (x2 ixD (xVar 0) (xC (.int 0)))) (xVar 1)) (gsSub 0 (xC (.int 0)))) (sRet (xVar 2)))) (mP .nx)) (sSeq (sSet 2 (xC (.int 0))) (sSeq (sSet 3 (xC (.int 1))) (sSeq (whileD (mT (x2 ltD (xVar 3) (x2 mulD (xC (.int 16777216)) (xVar 1)))) (sSeq (sAsg (x2 modD (xB intB (dCons (x2 addD (x2 mulD (lend [] 0 noLst (x2 ixD (xVar 0) (xC (.int 1)))) (xC (.int 6364136223846793005))) (xC (.int 1442695040888963407))) (mP []))) (xC (.int 18446744073709551616))) (gsSub 0 (xC (.int 1)))) (sSeq (sSet 2 (x2 addD (x2 mulD (xVar 2) (xC (.int 16777216))) (x2 divD (lend [] 0 noLst (x2 ixD (xVar 0) (xC (.int 1)))) (xC (.int 1099511627776))))) (sSet 3 (x2 mulD (xVar 3) (xC (.int 16777216)))))) 1000) (sRet (x2 modD (xB intB (dCons (xVar 2) (mP []))) (xVar 1)))))))
def F__law_take : List Ent → R D := defF (some 0) false 4 B__law_take
/-- _law_alike(one, two): slots one, two, k -/
def B__law_alike (FR : List Ent → R D) : M Fl := (sSeq (sIf (tOrM (mTru (xB isB (dCons (xVar 0) (dCons (xC (.opq (.ty "bool"))) (mP []))))) (mTru (xB isB (dCons (xVar 1) (dCons (xC (.opq (.ty "bool"))) (mP [])))))) (sRet (xAnd (xB isB (dCons (xVar 0) (dCons (xC (.opq (.ty "bool"))) (mP [])))) (xAnd (xB isB (dCons (xVar 1) (dCons (xC (.opq (.ty "bool"))) (mP [])))) (x2 eqD (xVar 0) (xVar 1))))) (mP .nx)) (sSeq (sIf (tOrM (mTru (xB isB (dCons (xVar 0) (dCons (xC (.opq (.ty "int"))) (mP []))))) (mTru (xB isB (dCons (xVar 1) (dCons (xC (.opq (.ty "int"))) (mP [])))))) (sRet (xAnd (xB isB (dCons (xVar 0) (dCons (xC (.opq (.ty "int"))) (mP [])))) (xAnd (xB isB (dCons (xVar 1) (dCons (xC (.opq (.ty "int"))) (mP [])))) (x2 eqD (xVar 0) (xVar 1))))) (mP .nx)) (sSeq (sIf (tOrM (mTru (xB isB (dCons (xVar 0) (dCons (xC (.opq (.ty "str"))) (mP []))))) (mTru (xB isB (dCons (xVar 1) (dCons (xC (.opq (.ty "str"))) (mP [])))))) (sRet (xAnd (xB isB (dCons (xVar 0) (dCons (xC (.opq (.ty "str"))) (mP [])))) (xAnd (xB isB (dCons (xVar 1) (dCons (xC (.opq (.ty "str"))) (mP [])))) (x2 eqD (xVar 0) (xVar 1))))) (mP .nx)) (sSeq (sIf (tOrM (mT (x2 isNoneD (xVar 0) (xC .non))) (mT (x2 isNoneD (xVar 1) (xC .non)))) (sRet (xAnd (x2 isNoneD (xVar 0) (xC .non)) (x2 isNoneD (xVar 1) (xC .non)))) (mP .nx)) (sSeq (sIf (tOrM (mTru (xB isB (dCons (xVar 0) (dCons (xC (.opq (.ty "dict"))) (mP []))))) (mTru (xB isB (dCons (xVar 1) (dCons (xC (.opq (.ty "dict"))) (mP [])))))) (sRet (xAnd (xB isB (dCons (xVar 0) (dCons (xC (.opq (.ty "dict"))) (mP [])))) (xAnd (xB isB (dCons (xVar 1) (dCons (xC (.opq (.ty "dict"))) (mP [])))) (xChain eqD eqD (xB lenB (dCons (xVar 0) (mP []))) (xB lenB (dCons (xVar 1) (mP []))) (xC (.int 0)))))) (mP .nx)) (sSeq (sIf (tOrM (mT (x2 neD (xB isB (dCons (xVar 0) (dCons (xC (.opq (.ty "tuple"))) (mP [])))) (xB isB (dCons (xVar 1) (dCons (xC (.opq (.ty "tuple"))) (mP [])))))) (mT (x2 neD (xB isB (dCons (xVar 0) (dCons (xC (.opq (.ty "list"))) (mP [])))) (xB isB (dCons (xVar 1) (dCons (xC (.opq (.ty "list"))) (mP []))))))) (sRet (xC (.bl false))) (mP .nx)) (sSeq (sIf (tOrM (tNotM (mTru (xIsT ["tuple", "list"] (xVar 0)))) (mT (x2 neD (xB lenB (dCons (xVar 0) (mP []))) (xB lenB (dCons (xVar 1) (mP [])))))) (sRet (xC (.bl false))) (mP .nx)) (sRet (xB allB (dCons (xFz (lComp [2] (iOf range1 (dCons (xB lenB (dCons (xVar 0) (mP []))) (mP []))) (setv 2) (mP true) (callD 2 FR (dCons (x2 ixD (xVar 0) (xVar 2)) (dCons (x2 ixD (xVar 1) (xVar 2)) (mP [])))))) (mP [])))))))))))
def F__law_alike : Nat → List Ent → R D
  | 0 => fBad
  | n + 1 => defF none false 3 (B__law_alike (F__law_alike n))
/-- _law_divisor(one, two): slots one, two -/
def B__law_divisor : M Fl := (sSeq (whileD (mT (x2 gtD (xVar 1) (xC (.int 0)))) (sPar2 0 1 (dCons (xVar 1) (dCons (x2 modD (xB intB (dCons (xVar 0) (mP []))) (xVar 1)) (mP [])))) 1000) (sRet (xVar 0)))
def F__law_divisor : List Ent → R D := defF none false 2 B__law_divisor
/-- _law_f(top, low): slots top, low, by -/
def B__law_f : M Fl := (sSeq (sSet 2 (callD 2 F__law_divisor (dCons (xB absB (dCons (xVar 0) (mP []))) (dCons (xB absB (dCons (xVar 1) (mP []))) (mP []))))) (sSeq (sSet 2 (xIf (mT (x2 gtD (xVar 1) (xC (.int 0)))) (xVar 2) (x2 subD (xC (.int 0)) (xVar 2)))) (sRet (xTup (dCons (x2 divD (xVar 0) (xVar 2)) (dCons (x2 divD (xVar 1) (xVar 2)) (mP [])))))))
def F__law_f : List Ent → R D := defF none false 3 B__law_f
/-- _law_plus(one, two): slots one, two -/
def B__law_plus : M Fl := (sRet (callD 2 F__law_f (dCons (x2 addD (x2 mulD (x2 ixD (xVar 0) (xC (.int 0))) (x2 ixD (xVar 1) (xC (.int 1)))) (x2 mulD (x2 ixD (xVar 1) (xC (.int 0))) (x2 ixD (xVar 0) (xC (.int 1))))) (dCons (x2 mulD (x2 ixD (xVar 0) (xC (.int 1))) (x2 ixD (xVar 1) (xC (.int 1)))) (mP [])))))
def F__law_plus : List Ent → R D := defF none false 2 B__law_plus
/-- _law_by(one, two): slots one, two -/
def B__law_by : M Fl := (sRet (callD 2 F__law_f (dCons (x2 mulD (x2 ixD (xVar 0) (xC (.int 0))) (x2 ixD (xVar 1) (xC (.int 0)))) (dCons (x2 mulD (x2 ixD (xVar 0) (xC (.int 1))) (x2 ixD (xVar 1) (xC (.int 1)))) (mP [])))))
def F__law_by : List Ent → R D := defF none false 2 B__law_by
/-- _law_below(one, two): slots one, two -/
def B__law_below : M Fl := (sRet (x2 ltD (x2 mulD (x2 ixD (xVar 0) (xC (.int 0))) (x2 ixD (xVar 1) (xC (.int 1)))) (x2 mulD (x2 ixD (xVar 1) (xC (.int 0))) (x2 ixD (xVar 0) (xC (.int 1))))))
def F__law_below : List Ent → R D := defF none false 2 B__law_below
/-- _law_most(some): slots some, found, each -/
def B__law_most : M Fl := (sSeq (sSet 1 (x2 ixD (xVar 0) (xC (.int 0)))) (sSeq (sFor (iRow (xVar 0)) (setv 2) (sSet 1 (xIf (mTru (callD 2 F__law_below (dCons (xVar 1) (dCons (xVar 2) (mP []))))) (xVar 2) (xVar 1)))) (sRet (xVar 1))))
def F__law_most : List Ent → R D := defF none false 3 B__law_most
/-- _law_least(some): slots some, found, each -/
def B__law_least : M Fl := (sSeq (sSet 1 (x2 ixD (xVar 0) (xC (.int 0)))) (sSeq (sFor (iRow (xVar 0)) (setv 2) (sSet 1 (xIf (mTru (callD 2 F__law_below (dCons (xVar 2) (dCons (xVar 1) (mP []))))) (xVar 2) (xVar 1)))) (sRet (xVar 1))))
def F__law_least : List Ent → R D := defF none false 3 B__law_least
/-- _law_values(pool, high): slots pool, high, many, kind, top, same, k -/
def B__law_values : M Fl := (sSeq (sAsg (xTup (dCons (x2 addD (xC (.int 1)) (callI 2 0 [0, 1, 2, 3, 4, 5, 6] F__law_take (aLate 0 (aVal (xVar 1) (mP []))))) (dCons (callI 2 0 [0, 1, 2, 3, 4, 5, 6] F__law_take (aLate 0 (aVal (xC (.int 3)) (mP [])))) (mP [])))) (gsTup 2 (gsCons (setv 2) (gsCons (setv 3) gsNil)))) (sSeq (sAsg (xTup (dCons (x2 ixD (xTup (dCons (xC (.int 3)) (dCons (xC (.int 9)) (dCons (xC (.int 9999)) (mP []))))) (callI 2 0 [0, 1, 2, 3, 4, 5, 6] F__law_take (aLate 0 (aVal (xC (.int 3)) (mP []))))) (dCons (x2 addD (xC (.int 1)) (callI 2 0 [0, 1, 2, 3, 4, 5, 6] F__law_take (aLate 0 (aVal (xC (.int 999)) (mP []))))) (mP [])))) (gsTup 2 (gsCons (setv 4) (gsCons (setv 5) gsNil)))) (sRet (xB tupB (dCons (xFz (lComp [6] (iOf range1 (dCons (xVar 2) (mP []))) (setv 6) (mP true) (xTup (dCons (x2 subD (callI 2 0 [0, 1, 2, 3, 4, 5, 6] F__law_take (aLate 0 (aVal (x2 addD (x2 mulD (xC (.int 2)) (xVar 4)) (xC (.int 1))) (mP [])))) (xVar 4)) (dCons (x2 ixD (xTup (dCons (xVar 5) (dCons (x2 addD (xC (.int 1)) (callI 2 0 [0, 1, 2, 3, 4, 5, 6] F__law_take (aLate 0 (aVal (xC (.int 4)) (mP []))))) (dCons (x2 addD (xC (.int 1)) (callI 2 0 [0, 1, 2, 3, 4, 5, 6] F__law_take (aLate 0 (aVal (xC (.int 999)) (mP []))))) (mP []))))) (xVar 3)) (mP [])))))) (mP []))))))
def F__law_values : List Ent → R D := defF (some 0) false 7 B__law_values
/-- _law_mean(values, low, high): slots values, low, high, some, x, w -/
def B__law_mean : M Fl := (sSeq (sSet 3 (xCut (xVar 0) (oInt (xVar 1)) (oInt (x2 addD (xVar 2) (xC (.int 1)))))) (sRet (callD 2 F__law_f (dCons (xB sumB (dCons (xFz (lComp [4, 5] (iRow (xVar 3)) (gsTup 2 (gsCons (setv 4) (gsCons (setv 5) gsNil))) (mP true) (x2 mulD (xVar 4) (xVar 5)))) (mP []))) (dCons (xB sumB (dCons (xFz (lComp [4, 5] (iRow (xVar 3)) (gsTup 2 (gsCons (setv 4) (gsCons (setv 5) gsNil))) (mP true) (xVar 5))) (mP []))) (mP []))))))
def F__law_mean : List Ent → R D := defF none false 6 B__law_mean
/-- _law_rising(values): slots values, place, many, found, a, b -/
def B__law_rising : M Fl := (sSeq (sParN [2, 3] (pVal (xB lenB (dCons (xVar 0) (mP []))) (pNew (lLst (mP [])) (mP [])))) (sSeq (sFor (iOf range1 (dCons (xVar 2) (mP []))) (setv 1) (sApp 3 (callD 1 F__law_most (dCons (xFz (lComp [4] (iOf range1 (dCons (x2 addD (xVar 1) (xC (.int 1))) (mP []))) (setv 4) (mP true) (callD 1 F__law_least (dCons (xFz (lComp [5] (iOf range2 (dCons (xVar 1) (dCons (xVar 2) (mP [])))) (setv 5) (mP true) (callD 3 F__law_mean (dCons (xVar 0) (dCons (xVar 4) (dCons (xVar 5) (mP []))))))) (mP []))))) (mP []))))) (sRet (lend [] 3 noLst (xB tupB (dCons (xVar 3) (mP [])))))))
def F__law_rising : List Ent → R D := defF none false 6 B__law_rising
/-- _law_right(pool, values): slots pool, values, place, own, due, many, other, by, much, more, x, w, b, each, a -/
def B__law_right : M Fl := (sSeq (sPar2 4 5 (dCons (callD 1 F__law_rising (dCons (xVar 1) (mP []))) (dCons (xB lenB (dCons (xVar 1) (mP []))) (mP [])))) (sSeq (sIf (tNotM (mTru (callD 2 (F__law_alike 10) (dCons (xTup (dCons (callD 1 F_rising (dCons (xVar 1) (mP []))) (dCons (callKw 1 1 [0] F_rising (dCons (xVar 1) (mP []))) (mP [])))) (dCons (xTup (dCons (xVar 4) (dCons (xVar 4) (mP [])))) (mP [])))))) (sRet (xC (.bl false))) (mP .nx)) (sSeq (sFor (iOf range1 (dCons (xVar 5) (mP []))) (setv 2) (sSeq (sSet 6 (callD 1 F__law_least (dCons (xFz (lComp [12] (iOf range2 (dCons (xVar 2) (dCons (xVar 5) (mP [])))) (setv 12) (mP true) (callD 1 F__law_most (dCons (xFz (lComp [14] (iOf range1 (dCons (x2 addD (xVar 2) (xC (.int 1))) (mP []))) (setv 14) (mP true) (callD 3 F__law_mean (dCons (xVar 1) (dCons (xVar 14) (dCons (xVar 12) (mP []))))))) (mP []))))) (mP [])))) (sIf (tOrM (mT (x2 neD (xVar 6) (x2 ixD (xVar 4) (xVar 2)))) (tAndM (mT (x2 gtD (xVar 2) (xC (.int 0)))) (mTru (callD 2 F__law_below (dCons (x2 ixD (xVar 4) (xVar 2)) (dCons (x2 ixD (xVar 4) (x2 subD (xVar 2) (xC (.int 1)))) (mP []))))))) (sRet (xC (.bl false))) (mP .nx)))) (sSeq (sSet 3 (xFz (lComp [10, 11] (iRow (xVar 1)) (gsTup 2 (gsCons (setv 10) (gsCons (setv 11) gsNil))) (mP true) (xVar 10)))) (sSeq (sIf (mT (x2 neD (x2 eqD (xVar 4) (xB tupB (dCons (xFz (lComp [10] (iRow (xVar 3)) (setv 10) (mP true) (xTup (dCons (xVar 10) (dCons (xC (.int 1)) (mP [])))))) (mP [])))) (x2 eqD (xVar 3) (xFz (lB sortB (dCons (xVar 3) (mP []))))))) (sRet (xC (.bl false))) (mP .nx)) (sSeq (sAsg (xTup (dCons (x2 subD (callI 2 0 [0, 1, 2, 3, 4, 5, 6, 7, 8, 9, 10, 11, 12, 13, 14] F__law_take (aLate 0 (aVal (xC (.int 99)) (mP [])))) (xC (.int 49))) (dCons (x2 addD (xC (.int 1)) (callI 2 0 [0, 1, 2, 3, 4, 5, 6, 7, 8, 9, 10, 11, 12, 13, 14] F__law_take (aLate 0 (aVal (xC (.int 5)) (mP []))))) (mP [])))) (gsTup 2 (gsCons (setv 7) (gsCons (setv 8) gsNil)))) (sSeq (sIf (mT (x2 ltD (xB maxB (dCons (xFz (lComp [10] (iRow (xVar 3)) (setv 10) (mP true) (xB absB (dCons (xVar 10) (mP []))))) (mP []))) (xC (.int 1000)))) (sSeq (sSet 9 (callD 1 F_rising (dCons (xB tupB (dCons (xFz (lComp [10, 11] (iRow (xVar 1)) (gsTup 2 (gsCons (setv 10) (gsCons (setv 11) gsNil))) (mP true) (xTup (dCons (x2 addD (x2 mulD (xVar 8) (xVar 10)) (xVar 7)) (dCons (xVar 11) (mP [])))))) (mP []))) (mP [])))) (sIf (mT (x2 neD (xVar 9) (xB tupB (dCons (xFz (lComp [13] (iRow (xVar 4)) (setv 13) (mP true) (callD 2 F__law_plus (dCons (callD 2 F__law_by (dCons (xVar 13) (dCons (xTup (dCons (xVar 8) (dCons (xC (.int 1)) (mP [])))) (mP [])))) (dCons (xTup (dCons (xVar 7) (dCons (xC (.int 1)) (mP [])))) (mP [])))))) (mP []))))) (sRet (xC (.bl false))) (mP .nx))) (mP .nx)) (sRet (xOr (x2 gtD (xB maxB (dCons (xFz (lComp [10, 11] (iRow (xVar 1)) (gsTup 2 (gsCons (setv 10) (gsCons (setv 11) gsNil))) (mP true) (xVar 11))) (mP []))) (xC (.int 199))) (x2 eqD (callD 1 F_rising (dCons (xB tupB (dCons (xFz (lComp [10, 11] (iRow (xVar 1)) (gsTup 2 (gsCons (setv 10) (gsCons (setv 11) gsNil))) (mP true) (xTup (dCons (xVar 10) (dCons (x2 mulD (xVar 11) (xVar 8)) (mP [])))))) (mP []))) (mP []))) (xVar 4)))))))))))
def F__law_right : List Ent → R D := defF (some 0) false 15 B__law_right
/-- law(script): slots script, turn, k, pool -/
def B_law : M Fl := (sSeq (sFor (iOf range1 (dCons (xB min2B (dCons (xC (.int 20)) (dCons (xB max2B (dCons (xC (.int 5)) (dCons (xB lenB (dCons (xVar 0) (mP []))) (mP [])))) (mP [])))) (mP []))) (setv 1) (sSeq (sSetL 3 (callL 2 F__law_pool (dCons (xVar 0) (dCons (xVar 1) (mP []))))) (sIf (tNotM (mTru (xB allB (dCons (xFz (lComp [2] (iOf range1 (dCons (xC (.int 2)) (mP []))) (setv 2) (mP true) (callI 2 0 [0, 1, 2, 3] F__law_right (aLate 3 (aVal (callI 2 0 [0, 1, 2, 3] F__law_values (aLate 3 (aVal (xC (.int 9)) (mP [])))) (mP [])))))) (mP []))))) (sRet (xC (.bl false))) (mP .nx)))) (sSeq (sFor (iOf range1 (dCons (xC (.int 27)) (mP []))) (setv 2) (sIf (tNotM (mTru (callN 2 0 F__law_right (pNew (callL 2 F__law_pool (dCons (xVar 0) (dCons (xC (.int 0)) (mP [])))) (pVal (xTup (dCons (xTup (dCons (x2 modD (xB intB (dCons (xVar 2) (mP []))) (xC (.int 3))) (dCons (xC (.int 1)) (mP [])))) (dCons (xTup (dCons (x2 modD (xB intB (dCons (x2 divD (xVar 2) (xC (.int 3))) (mP []))) (xC (.int 3))) (dCons (xC (.int 2)) (mP [])))) (dCons (xTup (dCons (x2 divD (xVar 2) (xC (.int 9))) (dCons (xC (.int 1)) (mP [])))) (mP []))))) (mP [])))))) (sRet (xC (.bl false))) (mP .nx))) (sRet (xAnd (x2 eqD (callD 1 F_rising (dCons (xTup (dCons (xTup (dCons (xC (.int 3)) (dCons (xC (.int 1)) (mP [])))) (dCons (xTup (dCons (xC (.int 1)) (dCons (xC (.int 1)) (mP [])))) (dCons (xTup (dCons (xC (.int 4)) (dCons (xC (.int 2)) (mP [])))) (mP []))))) (mP []))) (xTup (dCons (xTup (dCons (xC (.int 2)) (dCons (xC (.int 1)) (mP [])))) (dCons (xTup (dCons (xC (.int 2)) (dCons (xC (.int 1)) (mP [])))) (dCons (xTup (dCons (xC (.int 4)) (dCons (xC (.int 1)) (mP [])))) (mP [])))))) (x2 eqD (callD 1 F_rising (dCons (xTup (dCons (xTup (dCons (xC (.int 5)) (dCons (xC (.int 1)) (mP [])))) (dCons (xTup (dCons (xC (.int 0)) (dCons (xC (.int 4)) (mP [])))) (mP [])))) (mP []))) (xTup (dCons (xTup (dCons (xC (.int 1)) (dCons (xC (.int 1)) (mP [])))) (dCons (xTup (dCons (xC (.int 1)) (dCons (xC (.int 1)) (mP [])))) (mP [])))))))))
def F_law : List Ent → R D := defF none false 4 B_law
end FL
namespace FL
open PySem PySem.Spec L2
open PyProof.Rows (envOfC)
def topS (i : Nat) : Stmt := PySem.Challenge.pw_levelruns_k46_whole_rising_rows_by_means.main.body.getD i (.Pass ⟨0, 0, 0, 0⟩)
structure Txt (K : PySem.W.Frag) (mg : Str → Option Value) (a_is_value_by : Addr) : Prop where
  d_is_whole : ∃ f fd, mg "is_whole" = some (.ref f) ∧ Fun K "is_whole" "is_whole" (topS 2) f fd ∧ Binds K fd ["value"] []
  d_is_between : ∃ f fd, mg "is_between" = some (.ref f) ∧ Fun K "is_between" "is_between" (topS 3) f fd ∧ Binds K fd ["value", "low", "high"] []
  d_is_tuple_of : ∃ f fd, mg "is_tuple_of" = some (.ref f) ∧ Fun K "is_tuple_of" "is_tuple_of" (topS 4) f fd ∧ Binds K fd ["value", "many"] []
  d_first_wrong : ∃ f fd, mg "first_wrong" = some (.ref f) ∧ Fun K "first_wrong" "first_wrong" (topS 5) f fd ∧ Binds K fd ["value", "fewest", "most", "is_right"] []
  d_fraction : ∃ f fd, mg "fraction" = some (.ref f) ∧ Fun K "fraction" "fraction" (topS 6) f fd ∧ Binds K fd ["number", "under"] []
  d_is_less : ∃ f fd, mg "is_less" = some (.ref f) ∧ Fun K "is_less" "is_less" (topS 7) f fd ∧ Binds K fd ["one", "two"] []
  d_greater_of : ∃ f fd, mg "greater_of" = some (.ref f) ∧ Fun K "greater_of" "greater_of" (topS 8) f fd ∧ Binds K fd ["one", "two"] []
  d_lesser_of : ∃ f fd, mg "lesser_of" = some (.ref f) ∧ Fun K "lesser_of" "lesser_of" (topS 9) f fd ∧ Binds K fd ["one", "two"] []
  d_greatest_of : ∃ f fd, mg "greatest_of" = some (.ref f) ∧ Fun K "greatest_of" "greatest_of" (topS 10) f fd ∧ Binds K fd ["some"] []
  d_least_of : ∃ f fd, mg "least_of" = some (.ref f) ∧ Fun K "least_of" "least_of" (topS 11) f fd ∧ Binds K fd ["some"] []
  d_is_value_by : ∃ f fd, mg "is_value_by" = some (.ref f) ∧ Fun K "is_value_by" "is_value_by" (topS 19) f fd ∧ Binds K fd ["value"] []
  d_wrong_in_values : ∃ f fd, mg "wrong_in_values" = some (.ref f) ∧ Fun K "wrong_in_values" "wrong_in_values" (topS 20) f fd ∧ Binds K fd ["value"] []
  d_mean_by : ∃ f fd, mg "mean_by" = some (.ref f) ∧ Fun K "mean_by" "mean_by" (topS 21) f fd ∧ Binds K fd ["values", "one", "two"] []
  d_least_mean : ∃ f fd, mg "least_mean" = some (.ref f) ∧ Fun K "least_mean" "least_mean" (topS 22) f fd ∧ Binds K fd ["values", "one", "at"] []
  d_rising_by : ∃ f fd, mg "rising_by" = some (.ref f) ∧ Fun K "rising_by" "rising_by" (topS 23) f fd ∧ Binds K fd ["values"] []
  d_check_values : ∃ f fd, mg "check_values" = some (.ref f) ∧ Fun K "check_values" "check_values" (topS 25) f fd ∧ Binds K fd ["value"] []
  d_rising : ∃ f fd, mg "rising" = some (.ref f) ∧ Fun K "rising" "rising" (topS 26) f fd ∧ Binds K fd ["values"] []
  d__law_pool : ∃ f fd, mg "_law_pool" = some (.ref f) ∧ Fun K "_law_pool" "_law_pool" (topS 28) f fd ∧ Binds K fd ["script", "k"] []
  d__law_take : ∃ f fd, mg "_law_take" = some (.ref f) ∧ Fun K "_law_take" "_law_take" (topS 29) f fd ∧ Binds K fd ["pool", "many"] []
  d__law_alike : ∃ f fd, mg "_law_alike" = some (.ref f) ∧ Fun K "_law_alike" "_law_alike" (topS 30) f fd ∧ Binds K fd ["one", "two"] []
  d__law_divisor : ∃ f fd, mg "_law_divisor" = some (.ref f) ∧ Fun K "_law_divisor" "_law_divisor" (topS 31) f fd ∧ Binds K fd ["one", "two"] []
  d__law_f : ∃ f fd, mg "_law_f" = some (.ref f) ∧ Fun K "_law_f" "_law_f" (topS 32) f fd ∧ Binds K fd ["top", "low"] []
  d__law_plus : ∃ f fd, mg "_law_plus" = some (.ref f) ∧ Fun K "_law_plus" "_law_plus" (topS 33) f fd ∧ Binds K fd ["one", "two"] []
  d__law_by : ∃ f fd, mg "_law_by" = some (.ref f) ∧ Fun K "_law_by" "_law_by" (topS 34) f fd ∧ Binds K fd ["one", "two"] []
  d__law_below : ∃ f fd, mg "_law_below" = some (.ref f) ∧ Fun K "_law_below" "_law_below" (topS 35) f fd ∧ Binds K fd ["one", "two"] []
  d__law_most : ∃ f fd, mg "_law_most" = some (.ref f) ∧ Fun K "_law_most" "_law_most" (topS 36) f fd ∧ Binds K fd ["some"] []
  d__law_least : ∃ f fd, mg "_law_least" = some (.ref f) ∧ Fun K "_law_least" "_law_least" (topS 37) f fd ∧ Binds K fd ["some"] []
  d__law_values : ∃ f fd, mg "_law_values" = some (.ref f) ∧ Fun K "_law_values" "_law_values" (topS 38) f fd ∧ Binds K fd ["pool", "high"] []
  d__law_mean : ∃ f fd, mg "_law_mean" = some (.ref f) ∧ Fun K "_law_mean" "_law_mean" (topS 39) f fd ∧ Binds K fd ["values", "low", "high"] []
  d__law_rising : ∃ f fd, mg "_law_rising" = some (.ref f) ∧ Fun K "_law_rising" "_law_rising" (topS 40) f fd ∧ Binds K fd ["values"] []
  d__law_right : ∃ f fd, mg "_law_right" = some (.ref f) ∧ Fun K "_law_right" "_law_right" (topS 41) f fd ∧ Binds K fd ["pool", "values"] []
  d_law : ∃ f fd, mg "law" = some (.ref f) ∧ Fun K "law" "law" (topS 42) f fd ∧ Binds K fd ["script"] []
  b_abs : mg "abs" = none
  b_all : mg "all" = none
  b_bool : mg "bool" = none
  b_dict : mg "dict" = none
  b_enumerate : mg "enumerate" = none
  b_int : mg "int" = none
  b_isinstance : mg "isinstance" = none
  b_len : mg "len" = none
  b_list : mg "list" = none
  b_max : mg "max" = none
  b_min : mg "min" = none
  b_range : mg "range" = none
  b_sorted : mg "sorted" = none
  b_str : mg "str" = none
  b_sum : mg "sum" = none
  b_tuple : mg "tuple" = none
  c_FARTHEST : ∃ t, mg "FARTHEST" = some (.int (9999) t)
  c_MOST_VALUES : ∃ t, mg "MOST_VALUES" = some (.int (9) t)
  c_MOST_WEIGHT : ∃ t, mg "MOST_WEIGHT" = some (.int (999) t)
  g_gcd : mg "gcd" = some (.builtin "math.gcd")
  m_is_value_by : mg "is_value_by" = some (.ref a_is_value_by)
  n_is_value_by : PySem.W.nsIn K mainGlobals "is_value_by" = some (some (.ref a_is_value_by))
theorem sc_is_whole : FnScope ["value"] ["value"] (defScope (topS 2)) := ⟨rfl, rfl, rfl, by decide +kernel, rfl, by decide +kernel, by decide +kernel⟩
theorem ok_is_whole {P : Program} {w : World} {K : PySem.W.Frag} {mg : Str → Option Value} {base : Heap} {a_is_value_by : Addr} (T : Txt K mg a_is_value_by) : DefOk P w K mg base "is_whole" (topS 2) ["value"] 1 none false F_is_whole :=
  def_ok (k := 0) (io := none) (fr := false) (N := ["value"]) (T := [0]) (b := B_is_whole) T.d_is_whole sc_is_whole fun f cdv A outer s H E hr tk hp =>
  have hN := sc_is_whole.nd
  (ss_one (ss_ret (se_and (se_b call_isi ok_is T.b_isinstance (sd_cons (se_var 0) (sd_cons (se_type T.b_int (by decide +kernel)) sd_nil)) (by decide +kernel)) (se_one (se_not (se_b call_isi ok_is T.b_isinstance (sd_cons (se_var 0) (sd_cons (se_type T.b_bool (by decide +kernel)) sd_nil)) (by decide +kernel)))))))
theorem sc_is_between : FnScope ["value", "low", "high"] ["value", "low", "high"] (defScope (topS 3)) := ⟨rfl, rfl, rfl, by decide +kernel, rfl, by decide +kernel, by decide +kernel⟩
theorem ok_is_between {P : Program} {w : World} {K : PySem.W.Frag} {mg : Str → Option Value} {base : Heap} {a_is_value_by : Addr} (T : Txt K mg a_is_value_by)
    (G_is_whole : DefOk P w K mg base "is_whole" (topS 2) ["value"] 1 none false (F_is_whole)) : DefOk P w K mg base "is_between" (topS 3) ["value", "low", "high"] 2 none false F_is_between :=
  def_ok (k := 1) (io := none) (fr := false) (N := ["value", "low", "high"]) (T := [0, 1, 2]) (b := B_is_between) T.d_is_between sc_is_between fun f cdv A outer s H E hr tk hp =>
  have hN := sc_is_between.nd
  (ss_one (ss_ret (se_and (se_call G_is_whole hr tk (sd_cons (se_var 0) sd_nil)) (se_one (se_chain op_le op_le opd_le opd_le (se_var 1) (se_var 0) (se_var 2))))))
theorem sc_is_tuple_of : FnScope ["value", "many"] ["value", "many"] (defScope (topS 4)) := ⟨rfl, rfl, rfl, by decide +kernel, rfl, by decide +kernel, by decide +kernel⟩
theorem ok_is_tuple_of {P : Program} {w : World} {K : PySem.W.Frag} {mg : Str → Option Value} {base : Heap} {a_is_value_by : Addr} (T : Txt K mg a_is_value_by) : DefOk P w K mg base "is_tuple_of" (topS 4) ["value", "many"] 1 none false F_is_tuple_of :=
  def_ok (k := 0) (io := none) (fr := false) (N := ["value", "many"]) (T := [0, 1]) (b := B_is_tuple_of) T.d_is_tuple_of sc_is_tuple_of fun f cdv A outer s H E hr tk hp =>
  have hN := sc_is_tuple_of.nd
  (ss_one (ss_ret (se_and (se_b call_isi ok_is T.b_isinstance (sd_cons (se_var 0) (sd_cons (se_type T.b_tuple (by decide +kernel)) sd_nil)) (by decide +kernel)) (se_one (se_eq hr.units (se_b call_len ok_len T.b_len (sd_cons (se_var 0) sd_nil) (by decide +kernel)) (se_var 1))))))
theorem sc_is_value_by : FnScope ["value"] ["value"] (defScope (topS 19)) := ⟨rfl, rfl, rfl, by decide +kernel, rfl, by decide +kernel, by decide +kernel⟩
theorem ok_is_value_by {P : Program} {w : World} {K : PySem.W.Frag} {mg : Str → Option Value} {base : Heap} {a_is_value_by : Addr} (T : Txt K mg a_is_value_by)
    (G_is_tuple_of : DefOk P w K mg base "is_tuple_of" (topS 4) ["value", "many"] 1 none false (F_is_tuple_of))
    (G_is_between : DefOk P w K mg base "is_between" (topS 3) ["value", "low", "high"] 2 none false (F_is_between)) : DefOk P w K mg base "is_value_by" (topS 19) ["value"] 3 none false F_is_value_by :=
  def_ok (k := 2) (io := none) (fr := false) (N := ["value"]) (T := [0]) (b := B_is_value_by) T.d_is_value_by sc_is_value_by fun f cdv A outer s H E hr tk hp =>
  have hN := sc_is_value_by.nd
  (ss_one (ss_ret (se_and (se_call G_is_tuple_of (hr.mono (by decide)) tk (sd_cons (se_var 0) (sd_cons se_int sd_nil))) (se_and (se_call G_is_between hr tk (sd_cons (se_ix (se_var 0) se_int) (sd_cons (se_neg (se_cint T.c_FARTHEST)) (sd_cons (se_cint T.c_FARTHEST) sd_nil)))) (se_one (se_call G_is_between hr tk (sd_cons (se_ix (se_var 0) se_int) (sd_cons se_int (sd_cons (se_cint T.c_MOST_WEIGHT) sd_nil)))))))))
theorem sc_first_wrong__is_value_by : FnScope ["value", "fewest", "most", "is_right", "index", "each"] ["value", "fewest", "most", "is_right"] (defScope (topS 5)) := ⟨rfl, rfl, rfl, by decide +kernel, rfl, by decide +kernel, by decide +kernel⟩
theorem ok_first_wrong__is_value_by {P : Program} {w : World} {K : PySem.W.Frag} {mg : Str → Option Value} {base : Heap} {a_is_value_by : Addr} (T : Txt K mg a_is_value_by)
    (G_is_value_by : DefOk P w K mg base "is_value_by" (topS 19) ["value"] 3 none false (F_is_value_by)) : DefOk P w K mg base "first_wrong" (topS 5) ["value", "fewest", "most", "is_right"] 4 none false F_first_wrong__is_value_by :=
  def_ok (k := 3) (io := none) (fr := false) (N := ["value", "fewest", "most", "is_right", "index", "each"]) (T := [0, 1, 2, 3, 4, 5]) (b := B_first_wrong__is_value_by) T.d_first_wrong sc_first_wrong__is_value_by fun f cdv A outer s H E hr tk hp =>
  have hN := sc_first_wrong__is_value_by.nd
  (ss_cons (ss_if (SW.pt (sw_or (st_not (st_of (se_b call_isi ok_is T.b_isinstance (sd_cons (se_var 0) (sd_cons (se_type T.b_tuple (by decide +kernel)) sd_nil)) (by decide +kernel)))) (sw_or1 (st_not (st_chain op_le op_le opd_le opd_le (se_var 1) (se_b call_len ok_len T.b_len (sd_cons (se_var 0) sd_nil) (by decide +kernel)) (se_var 2)))))) (ss_one (ss_ret (SL.se (el_lst (sd_cons se_non sd_nil))))) ss_nil) (ss_one (ss_ret (se_cut (SL.se (el_comp [("index", 4), ("each", 5)] rfl hN (si_enum T.b_enumerate (sd_cons (se_var 0) sd_nil)) (fun _ _ _ _ _ => (sg_tup rfl (sgs_cons (sg_name 4 hN) (sgs_cons (sg_name 5 hN) sgs_nil)))) (fun _ _ _ _ _ => (sts_one (st_not (st_of (se_callP 3 G_is_value_by T.m_is_value_by T.n_is_value_by hr takes0 (sd_cons (se_var 5) sd_nil)))))) (fun _ _ _ _ _ => (se_var 4)) (blkOk_by (N := ["value", "fewest", "most", "is_right", "index", "each"]) (sc := defScope (topS 5)) (by decide +kernel)))) so_none (so_some se_int)))))
theorem sc_fraction : FnScope ["number", "under", "part"] ["number", "under"] (defScope (topS 6)) := ⟨rfl, rfl, rfl, by decide +kernel, rfl, by decide +kernel, by decide +kernel⟩
theorem ok_fraction {P : Program} {w : World} {K : PySem.W.Frag} {mg : Str → Option Value} {base : Heap} {a_is_value_by : Addr} (T : Txt K mg a_is_value_by) : DefOk P w K mg base "fraction" (topS 6) ["number", "under"] 1 none false F_fraction :=
  def_ok (k := 0) (io := none) (fr := false) (N := ["number", "under", "part"]) (T := [0, 1, 2]) (b := B_fraction) T.d_fraction sc_fraction fun f cdv A outer s H E hr tk hp =>
  have hN := sc_fraction.nd
  (ss_cons (ss_set 2 hN (se_mul (se_gcd cr_gcd ok_int2 T.g_gcd (sd_cons (se_var 0) (sd_cons (se_var 1) sd_nil))) (se_if (st_gt (se_var 1) se_int) se_int (se_neg se_int)))) (ss_one (ss_ret (se_tup (sd_cons (se_div (se_var 0) (se_var 2)) (sd_cons (se_div (se_var 1) (se_var 2)) sd_nil))))))
theorem sc_is_less : FnScope ["one", "two"] ["one", "two"] (defScope (topS 7)) := ⟨rfl, rfl, rfl, by decide +kernel, rfl, by decide +kernel, by decide +kernel⟩
theorem ok_is_less {P : Program} {w : World} {K : PySem.W.Frag} {mg : Str → Option Value} {base : Heap} {a_is_value_by : Addr} (T : Txt K mg a_is_value_by) : DefOk P w K mg base "is_less" (topS 7) ["one", "two"] 1 none false F_is_less :=
  def_ok (k := 0) (io := none) (fr := false) (N := ["one", "two"]) (T := [0, 1]) (b := B_is_less) T.d_is_less sc_is_less fun f cdv A outer s H E hr tk hp =>
  have hN := sc_is_less.nd
  (ss_one (ss_ret (se_lt (se_mul (se_ix (se_var 0) se_int) (se_ix (se_var 1) se_int)) (se_mul (se_ix (se_var 1) se_int) (se_ix (se_var 0) se_int)))))
theorem sc_greater_of : FnScope ["one", "two"] ["one", "two"] (defScope (topS 8)) := ⟨rfl, rfl, rfl, by decide +kernel, rfl, by decide +kernel, by decide +kernel⟩
theorem ok_greater_of {P : Program} {w : World} {K : PySem.W.Frag} {mg : Str → Option Value} {base : Heap} {a_is_value_by : Addr} (T : Txt K mg a_is_value_by)
    (G_is_less : DefOk P w K mg base "is_less" (topS 7) ["one", "two"] 1 none false (F_is_less)) : DefOk P w K mg base "greater_of" (topS 8) ["one", "two"] 2 none false F_greater_of :=
  def_ok (k := 1) (io := none) (fr := false) (N := ["one", "two"]) (T := [0, 1]) (b := B_greater_of) T.d_greater_of sc_greater_of fun f cdv A outer s H E hr tk hp =>
  have hN := sc_greater_of.nd
  (ss_one (ss_ret (se_if (st_of (se_call G_is_less hr tk (sd_cons (se_var 0) (sd_cons (se_var 1) sd_nil)))) (se_var 1) (se_var 0))))
theorem sc_lesser_of : FnScope ["one", "two"] ["one", "two"] (defScope (topS 9)) := ⟨rfl, rfl, rfl, by decide +kernel, rfl, by decide +kernel, by decide +kernel⟩
theorem ok_lesser_of {P : Program} {w : World} {K : PySem.W.Frag} {mg : Str → Option Value} {base : Heap} {a_is_value_by : Addr} (T : Txt K mg a_is_value_by)
    (G_is_less : DefOk P w K mg base "is_less" (topS 7) ["one", "two"] 1 none false (F_is_less)) : DefOk P w K mg base "lesser_of" (topS 9) ["one", "two"] 2 none false F_lesser_of :=
  def_ok (k := 1) (io := none) (fr := false) (N := ["one", "two"]) (T := [0, 1]) (b := B_lesser_of) T.d_lesser_of sc_lesser_of fun f cdv A outer s H E hr tk hp =>
  have hN := sc_lesser_of.nd
  (ss_one (ss_ret (se_if (st_of (se_call G_is_less hr tk (sd_cons (se_var 1) (sd_cons (se_var 0) sd_nil)))) (se_var 1) (se_var 0))))
theorem sc_greatest_of : FnScope ["some", "found", "each"] ["some"] (defScope (topS 10)) := ⟨rfl, rfl, rfl, by decide +kernel, rfl, by decide +kernel, by decide +kernel⟩
theorem ok_greatest_of {P : Program} {w : World} {K : PySem.W.Frag} {mg : Str → Option Value} {base : Heap} {a_is_value_by : Addr} (T : Txt K mg a_is_value_by)
    (G_greater_of : DefOk P w K mg base "greater_of" (topS 8) ["one", "two"] 2 none false (F_greater_of)) : DefOk P w K mg base "greatest_of" (topS 10) ["some"] 3 none false F_greatest_of :=
  def_ok (k := 2) (io := none) (fr := false) (N := ["some", "found", "each"]) (T := [0, 1, 2]) (b := B_greatest_of) T.d_greatest_of sc_greatest_of fun f cdv A outer s H E hr tk hp =>
  have hN := sc_greatest_of.nd
  (ss_cons (ss_set 1 hN (se_ix (se_var 0) se_int)) (ss_cons (ss_for rfl hp (si_row (se_cut (se_var 0) (so_some se_int) so_none)) (sg_name 2 hN) (ss_one (ss_set 1 hN (se_call G_greater_of hr tk (sd_cons (se_var 1) (sd_cons (se_var 2) sd_nil)))))) (ss_one (ss_ret (se_var 1)))))
theorem sc_least_of : FnScope ["some", "found", "each"] ["some"] (defScope (topS 11)) := ⟨rfl, rfl, rfl, by decide +kernel, rfl, by decide +kernel, by decide +kernel⟩
theorem ok_least_of {P : Program} {w : World} {K : PySem.W.Frag} {mg : Str → Option Value} {base : Heap} {a_is_value_by : Addr} (T : Txt K mg a_is_value_by)
    (G_lesser_of : DefOk P w K mg base "lesser_of" (topS 9) ["one", "two"] 2 none false (F_lesser_of)) : DefOk P w K mg base "least_of" (topS 11) ["some"] 3 none false F_least_of :=
  def_ok (k := 2) (io := none) (fr := false) (N := ["some", "found", "each"]) (T := [0, 1, 2]) (b := B_least_of) T.d_least_of sc_least_of fun f cdv A outer s H E hr tk hp =>
  have hN := sc_least_of.nd
  (ss_cons (ss_set 1 hN (se_ix (se_var 0) se_int)) (ss_cons (ss_for rfl hp (si_row (se_cut (se_var 0) (so_some se_int) so_none)) (sg_name 2 hN) (ss_one (ss_set 1 hN (se_call G_lesser_of hr tk (sd_cons (se_var 1) (sd_cons (se_var 2) sd_nil)))))) (ss_one (ss_ret (se_var 1)))))
theorem sc_wrong_in_values : FnScope ["value"] ["value"] (defScope (topS 20)) := ⟨rfl, rfl, rfl, by decide +kernel, rfl, by decide +kernel, by decide +kernel⟩
theorem ok_wrong_in_values {P : Program} {w : World} {K : PySem.W.Frag} {mg : Str → Option Value} {base : Heap} {a_is_value_by : Addr} (T : Txt K mg a_is_value_by)
    (G_first_wrong__is_value_by : DefOk P w K mg base "first_wrong" (topS 5) ["value", "fewest", "most", "is_right"] 4 none false (F_first_wrong__is_value_by)) : DefOk P w K mg base "wrong_in_values" (topS 20) ["value"] 5 none false F_wrong_in_values :=
  def_ok (k := 4) (io := none) (fr := false) (N := ["value"]) (T := [0]) (b := B_wrong_in_values) T.d_wrong_in_values sc_wrong_in_values fun f cdv A outer s H E hr tk hp =>
  have hN := sc_wrong_in_values.nd
  (ss_one (ss_ret (se_call G_first_wrong__is_value_by hr tk (sd_cons (se_var 0) (sd_cons se_int (sd_cons (se_cint T.c_MOST_VALUES) (sd_cons (se_def T.m_is_value_by T.n_is_value_by) sd_nil)))))))
theorem sc_mean_by : FnScope ["values", "one", "two", "part", "number", "weight", "_"] ["values", "one", "two"] (defScope (topS 21)) := ⟨rfl, rfl, rfl, by decide +kernel, rfl, by decide +kernel, by decide +kernel⟩
theorem ok_mean_by {P : Program} {w : World} {K : PySem.W.Frag} {mg : Str → Option Value} {base : Heap} {a_is_value_by : Addr} (T : Txt K mg a_is_value_by)
    (G_fraction : DefOk P w K mg base "fraction" (topS 6) ["number", "under"] 1 none false (F_fraction)) : DefOk P w K mg base "mean_by" (topS 21) ["values", "one", "two"] 2 none false F_mean_by :=
  def_ok (k := 1) (io := none) (fr := false) (N := ["values", "one", "two", "part", "number", "weight", "_"]) (T := [0, 1, 2, 3, 4, 5, 6]) (b := B_mean_by) T.d_mean_by sc_mean_by fun f cdv A outer s H E hr tk hp =>
  have hN := sc_mean_by.nd
  (ss_cons (ss_set 3 hN (se_cut (se_var 0) (so_some (se_var 1)) (so_some (se_add (se_var 2) se_int)))) (ss_one (ss_ret (se_call G_fraction hr tk (sd_cons (se_b (cr_sum rfl) ok_sum T.b_sum (sd_cons (SL.se (el_comp [("number", 4), ("weight", 5)] rfl hN (si_row (se_var 3)) (fun _ _ _ _ _ => (sg_tup rfl (sgs_cons (sg_name 4 hN) (sgs_cons (sg_name 5 hN) sgs_nil)))) (fun _ _ _ _ _ => sts_nil) (fun _ _ _ _ _ => (se_mul (se_var 4) (se_var 5))) (blkOk_by (N := ["values", "one", "two", "part", "number", "weight", "_"]) (sc := defScope (topS 21)) (by decide +kernel)))) sd_nil) (by decide +kernel)) (sd_cons (se_b (cr_sum rfl) ok_sum T.b_sum (sd_cons (SL.se (el_comp [("_", 6), ("weight", 5)] rfl hN (si_row (se_var 3)) (fun _ _ _ _ _ => (sg_tup rfl (sgs_cons (sg_name 6 hN) (sgs_cons (sg_name 5 hN) sgs_nil)))) (fun _ _ _ _ _ => sts_nil) (fun _ _ _ _ _ => (se_var 5)) (blkOk_by (N := ["values", "one", "two", "part", "number", "weight", "_"]) (sc := defScope (topS 21)) (by decide +kernel)))) sd_nil) (by decide +kernel)) sd_nil))))))
theorem sc_least_mean : FnScope ["values", "one", "at", "two"] ["values", "one", "at"] (defScope (topS 22)) := ⟨rfl, rfl, rfl, by decide +kernel, rfl, by decide +kernel, by decide +kernel⟩
theorem ok_least_mean {P : Program} {w : World} {K : PySem.W.Frag} {mg : Str → Option Value} {base : Heap} {a_is_value_by : Addr} (T : Txt K mg a_is_value_by)
    (G_least_of : DefOk P w K mg base "least_of" (topS 11) ["some"] 3 none false (F_least_of))
    (G_mean_by : DefOk P w K mg base "mean_by" (topS 21) ["values", "one", "two"] 2 none false (F_mean_by)) : DefOk P w K mg base "least_mean" (topS 22) ["values", "one", "at"] 4 none false F_least_mean :=
  def_ok (k := 3) (io := none) (fr := false) (N := ["values", "one", "at", "two"]) (T := [0, 1, 2, 3]) (b := B_least_mean) T.d_least_mean sc_least_mean fun f cdv A outer s H E hr tk hp =>
  have hN := sc_least_mean.nd
  (ss_one (ss_ret (se_call G_least_of hr tk (sd_cons (SL.se (el_comp [("two", 3)] rfl hN (si_range2 T.b_range (sd_cons (se_var 2) (sd_cons (se_b call_len ok_len T.b_len (sd_cons (se_var 0) sd_nil) (by decide +kernel)) sd_nil))) (fun _ _ _ _ _ => (sg_name 3 hN)) (fun _ _ _ _ _ => sts_nil) (fun _ _ _ _ _ => (se_call G_mean_by (hr.mono (by decide)) takes0 (sd_cons (se_var 0) (sd_cons (se_var 1) (sd_cons (se_var 3) sd_nil))))) (blkOk_by (N := ["values", "one", "at", "two"]) (sc := defScope (topS 22)) (by decide +kernel)))) sd_nil))))
theorem sc_rising_by : FnScope ["values", "places", "at", "one"] ["values"] (defScope (topS 23)) := ⟨rfl, rfl, rfl, by decide +kernel, rfl, by decide +kernel, by decide +kernel⟩
theorem ok_rising_by {P : Program} {w : World} {K : PySem.W.Frag} {mg : Str → Option Value} {base : Heap} {a_is_value_by : Addr} (T : Txt K mg a_is_value_by)
    (G_greatest_of : DefOk P w K mg base "greatest_of" (topS 10) ["some"] 3 none false (F_greatest_of))
    (G_least_mean : DefOk P w K mg base "least_mean" (topS 22) ["values", "one", "at"] 4 none false (F_least_mean)) : DefOk P w K mg base "rising_by" (topS 23) ["values"] 5 none false F_rising_by :=
  def_ok (k := 4) (io := none) (fr := false) (N := ["values", "places", "at", "one"]) (T := [0, 1, 2, 3]) (b := B_rising_by) T.d_rising_by sc_rising_by fun f cdv A outer s H E hr tk hp =>
  have hN := sc_rising_by.nd
  (ss_cons (ss_set 1 hN (SL.se (el_lrg1 T.b_list T.b_range (se_b call_len ok_len T.b_len (sd_cons (se_var 0) sd_nil) (by decide +kernel))))) (ss_one (ss_ret (se_bt call_tuple_of ok_tup T.b_tuple (sd_cons (SL.se (el_comp [("at", 2)] rfl hN (si_row (se_var 1)) (fun _ _ _ _ _ => (sg_name 2 hN)) (fun _ _ _ _ _ => sts_nil) (fun _ _ _ _ _ => (se_call G_greatest_of (hr.mono (by decide)) takes0 (sd_cons (SL.se (el_comp [("one", 3)] rfl hN (si_range1 T.b_range (sd_cons (se_add (se_var 2) se_int) sd_nil)) (fun _ _ _ _ _ => (sg_name 3 hN)) (fun _ _ _ _ _ => sts_nil) (fun _ _ _ _ _ => (se_call G_least_mean hr takes0 (sd_cons (se_var 0) (sd_cons (se_var 3) (sd_cons (se_var 2) sd_nil))))) (blkOk_in (N := ["values", "places", "at", "one"]) (envOfC "rising_by" (defScope (topS 23)) 0 0 .none) rfl (by decide +kernel)))) sd_nil))) (blkOk_by (N := ["values", "places", "at", "one"]) (sc := defScope (topS 23)) (by decide +kernel)))) sd_nil) (by decide +kernel)))))
theorem sc_check_values : FnScope ["value", "index"] ["value"] (defScope (topS 25)) := ⟨rfl, rfl, rfl, by decide +kernel, rfl, by decide +kernel, by decide +kernel⟩
theorem ok_check_values {P : Program} {w : World} {K : PySem.W.Frag} {mg : Str → Option Value} {base : Heap} {a_is_value_by : Addr} (T : Txt K mg a_is_value_by)
    (G_wrong_in_values : DefOk P w K mg base "wrong_in_values" (topS 20) ["value"] 5 none false (F_wrong_in_values)) : DefOk P w K mg base "check_values" (topS 25) ["value"] 6 none false F_check_values :=
  def_ok (k := 5) (io := none) (fr := false) (N := ["value", "index"]) (T := [0, 1]) (b := B_check_values) T.d_check_values sc_check_values fun f cdv A outer s H E hr tk hp =>
  have hN := sc_check_values.nd
  (ss_one (ss_for rfl hp (si_row (se_call G_wrong_in_values hr tk (sd_cons (se_var 0) sd_nil))) (sg_name 1 hN) (ss_one ss_bad)))
theorem sc_rising : FnScope ["values"] ["values"] (defScope (topS 26)) := ⟨rfl, rfl, rfl, by decide +kernel, rfl, by decide +kernel, by decide +kernel⟩
theorem ok_rising {P : Program} {w : World} {K : PySem.W.Frag} {mg : Str → Option Value} {base : Heap} {a_is_value_by : Addr} (T : Txt K mg a_is_value_by)
    (G_check_values : DefOk P w K mg base "check_values" (topS 25) ["value"] 6 none false (F_check_values))
    (G_rising_by : DefOk P w K mg base "rising_by" (topS 23) ["values"] 5 none false (F_rising_by)) : DefOk P w K mg base "rising" (topS 26) ["values"] 7 none false F_rising :=
  def_ok (k := 6) (io := none) (fr := false) (N := ["values"]) (T := [0]) (b := B_rising) T.d_rising sc_rising fun f cdv A outer s H E hr tk hp =>
  have hN := sc_rising.nd
  (ss_cons (ss_expr (se_call G_check_values hr tk (sd_cons (se_var 0) sd_nil))) (ss_one (ss_ret (se_call G_rising_by (hr.mono (by decide)) tk (sd_cons (se_var 0) sd_nil)))))
theorem sc__law_pool : FnScope ["script", "k", "cell", "size", "stir"] ["script", "k"] (defScope (topS 28)) := ⟨rfl, rfl, rfl, by decide +kernel, rfl, by decide +kernel, by decide +kernel⟩
theorem ok__law_pool {P : Program} {w : World} {K : PySem.W.Frag} {mg : Str → Option Value} {base : Heap} {a_is_value_by : Addr} (T : Txt K mg a_is_value_by) : DefOk P w K mg base "_law_pool" (topS 28) ["script", "k"] 1 none true F__law_pool :=
  def_ok (k := 0) (io := none) (fr := true) (N := ["script", "k", "cell", "size", "stir"]) (T := [0, 1, 2, 3, 4]) (b := B__law_pool) T.d__law_pool sc__law_pool fun f cdv A outer s H E hr tk hp =>
  have hN := sc__law_pool.nd
  (ss_cons (ss_set 2 hN (se_add (se_mul se_int (se_var 1)) (se_mul se_int (se_b call_len ok_len T.b_len (sd_cons (se_var 0) sd_nil) (by decide +kernel))))) (ss_cons (ss_if (st_lt (se_var 1) (se_b call_len ok_len T.b_len (sd_cons (se_var 0) sd_nil) (by decide +kernel))) (ss_one (ss_set 2 hN (se_ix (se_var 0) (se_var 1)))) ss_nil) (ss_cons (ss_set 3 hN (se_b call_abs ok_int1 T.b_abs (sd_cons (se_var 2) sd_nil) (by decide +kernel))) (ss_cons (ss_set 4 hN (se_mod (se_bt call_int1 ok_int T.b_int (sd_cons (se_add (se_add (se_add (se_mul (se_var 3) se_int) (se_mul se_int (se_var 1))) (se_mul se_int (se_bt call_int1 ok_int T.b_int (sd_cons (se_lt (se_var 2) se_int) sd_nil) (by decide +kernel)))) se_int) sd_nil) (by decide +kernel)) se_int)) (ss_cons (ss_if (st_ge (se_var 3) se_int) (ss_one (ss_retL (el_lst (sd_cons (se_add (se_mul se_int (se_sub (se_var 3) se_int)) (se_bt call_int1 ok_int T.b_int (sd_cons (se_lt (se_var 2) se_int) sd_nil) (by decide +kernel))) (sd_cons (se_var 4) sd_nil))))) ss_nil) (ss_one (ss_retL (el_lst (sd_cons se_int (sd_cons (se_var 4) sd_nil))))))))))
theorem sc__law_take : FnScope ["pool", "many", "told", "reach"] ["pool", "many"] (defScope (topS 29)) := ⟨rfl, rfl, rfl, by decide +kernel, rfl, by decide +kernel, by decide +kernel⟩
theorem ok__law_take {P : Program} {w : World} {K : PySem.W.Frag} {mg : Str → Option Value} {base : Heap} {a_is_value_by : Addr} (T : Txt K mg a_is_value_by) : DefOk P w K mg base "_law_take" (topS 29) ["pool", "many"] 1 (some 0) false F__law_take :=
  def_ok (k := 0) (io := (some 0)) (fr := false) (N := ["pool", "many", "told", "reach"]) (T := [0, 1, 2, 3]) (b := B__law_take) T.d__law_take sc__law_take fun f cdv A outer s H E hr tk hp =>
  have hN := sc__law_take.nd
  (ss_cons (ss_if (st_gt (se_lend (S := []) 0 (se_ix (se_var 0) se_int)) se_int) (ss_cons (ss_set 2 hN (se_mod (se_bt call_int1 ok_int T.b_int (sd_cons (se_lend (S := []) 0 (se_ix (se_var 0) se_int)) sd_nil) (by decide +kernel)) (se_var 1))) (ss_cons (ss_asg (se_div (se_lend (S := []) 0 (se_ix (se_var 0) se_int)) (se_var 1)) (sg_sub 0 se_int)) (ss_one (ss_ret (se_var 2))))) ss_nil) (ss_cons (ss_set 2 hN se_int) (ss_cons (ss_set 3 hN se_int) (ss_cons (ss_while 1000 hp (st_lt (se_var 3) (se_mul se_int (se_var 1))) (ss_cons (ss_asg (se_mod (se_bt call_int1 ok_int T.b_int (sd_cons (se_add (se_mul (se_lend (S := []) 0 (se_ix (se_var 0) se_int)) se_int) se_int) sd_nil) (by decide +kernel)) se_int) (sg_sub 0 se_int)) (ss_cons (ss_set 2 hN (se_add (se_mul (se_var 2) se_int) (se_div (se_lend (S := []) 0 (se_ix (se_var 0) se_int)) se_int))) (ss_one (ss_set 3 hN (se_mul (se_var 3) se_int)))))) (ss_one (ss_ret (se_mod (se_bt call_int1 ok_int T.b_int (sd_cons (se_var 2) sd_nil) (by decide +kernel)) (se_var 1))))))))
theorem sc__law_alike : FnScope ["one", "two", "k"] ["one", "two"] (defScope (topS 30)) := ⟨rfl, rfl, rfl, by decide +kernel, rfl, by decide +kernel, by decide +kernel⟩
theorem ok__law_alike {P : Program} {w : World} {K : PySem.W.Frag} {mg : Str → Option Value} {base : Heap} {a_is_value_by : Addr} (T : Txt K mg a_is_value_by) : ∀ n : Nat, DefOk P w K mg base "_law_alike" (topS 30) ["one", "two"] (1 + n) none false (F__law_alike n)
  | 0 => bad_ok T.d__law_alike
  | n + 1 =>
  have G__law_alike := ok__law_alike (P := P) (w := w) (base := base) T n
  def_ok (k := 1 + n) (io := none) (fr := false) (N := ["one", "two", "k"]) (T := [0, 1, 2]) (b := B__law_alike (F__law_alike n)) T.d__law_alike sc__law_alike fun f cdv A outer s H E hr tk hp =>
  have hN := sc__law_alike.nd
  (ss_cons (ss_if (SW.pt (sw_or (st_of (se_b call_isi ok_is T.b_isinstance (sd_cons (se_var 0) (sd_cons (se_type T.b_bool (by decide +kernel)) sd_nil)) (by decide +kernel))) (sw_or1 (st_of (se_b call_isi ok_is T.b_isinstance (sd_cons (se_var 1) (sd_cons (se_type T.b_bool (by decide +kernel)) sd_nil)) (by decide +kernel)))))) (ss_one (ss_ret (se_and (se_b call_isi ok_is T.b_isinstance (sd_cons (se_var 0) (sd_cons (se_type T.b_bool (by decide +kernel)) sd_nil)) (by decide +kernel)) (se_and (se_b call_isi ok_is T.b_isinstance (sd_cons (se_var 1) (sd_cons (se_type T.b_bool (by decide +kernel)) sd_nil)) (by decide +kernel)) (se_one (se_eq hr.units (se_var 0) (se_var 1))))))) ss_nil) (ss_cons (ss_if (SW.pt (sw_or (st_of (se_b call_isi ok_is T.b_isinstance (sd_cons (se_var 0) (sd_cons (se_type T.b_int (by decide +kernel)) sd_nil)) (by decide +kernel))) (sw_or1 (st_of (se_b call_isi ok_is T.b_isinstance (sd_cons (se_var 1) (sd_cons (se_type T.b_int (by decide +kernel)) sd_nil)) (by decide +kernel)))))) (ss_one (ss_ret (se_and (se_b call_isi ok_is T.b_isinstance (sd_cons (se_var 0) (sd_cons (se_type T.b_int (by decide +kernel)) sd_nil)) (by decide +kernel)) (se_and (se_b call_isi ok_is T.b_isinstance (sd_cons (se_var 1) (sd_cons (se_type T.b_int (by decide +kernel)) sd_nil)) (by decide +kernel)) (se_one (se_eq hr.units (se_var 0) (se_var 1))))))) ss_nil) (ss_cons (ss_if (SW.pt (sw_or (st_of (se_b call_isi ok_is T.b_isinstance (sd_cons (se_var 0) (sd_cons (se_type T.b_str (by decide +kernel)) sd_nil)) (by decide +kernel))) (sw_or1 (st_of (se_b call_isi ok_is T.b_isinstance (sd_cons (se_var 1) (sd_cons (se_type T.b_str (by decide +kernel)) sd_nil)) (by decide +kernel)))))) (ss_one (ss_ret (se_and (se_b call_isi ok_is T.b_isinstance (sd_cons (se_var 0) (sd_cons (se_type T.b_str (by decide +kernel)) sd_nil)) (by decide +kernel)) (se_and (se_b call_isi ok_is T.b_isinstance (sd_cons (se_var 1) (sd_cons (se_type T.b_str (by decide +kernel)) sd_nil)) (by decide +kernel)) (se_one (se_eq hr.units (se_var 0) (se_var 1))))))) ss_nil) (ss_cons (ss_if (SW.pt (sw_or (st_isN (se_var 0) se_non) (sw_or1 (st_isN (se_var 1) se_non)))) (ss_one (ss_ret (se_and (se_isN (se_var 0) se_non) (se_one (se_isN (se_var 1) se_non))))) ss_nil) (ss_cons (ss_if (SW.pt (sw_or (st_of (se_b call_isi ok_is T.b_isinstance (sd_cons (se_var 0) (sd_cons (se_type T.b_dict (by decide +kernel)) sd_nil)) (by decide +kernel))) (sw_or1 (st_of (se_b call_isi ok_is T.b_isinstance (sd_cons (se_var 1) (sd_cons (se_type T.b_dict (by decide +kernel)) sd_nil)) (by decide +kernel)))))) (ss_one (ss_ret (se_and (se_b call_isi ok_is T.b_isinstance (sd_cons (se_var 0) (sd_cons (se_type T.b_dict (by decide +kernel)) sd_nil)) (by decide +kernel)) (se_and (se_b call_isi ok_is T.b_isinstance (sd_cons (se_var 1) (sd_cons (se_type T.b_dict (by decide +kernel)) sd_nil)) (by decide +kernel)) (se_one (se_chain (op_eqD hr.units) (op_eqD hr.units) opd_eq opd_eq (se_b call_len ok_len T.b_len (sd_cons (se_var 0) sd_nil) (by decide +kernel)) (se_b call_len ok_len T.b_len (sd_cons (se_var 1) sd_nil) (by decide +kernel)) se_int)))))) ss_nil) (ss_cons (ss_if (SW.pt (sw_or (st_ne hr.units (se_b call_isi ok_is T.b_isinstance (sd_cons (se_var 0) (sd_cons (se_type T.b_tuple (by decide +kernel)) sd_nil)) (by decide +kernel)) (se_b call_isi ok_is T.b_isinstance (sd_cons (se_var 1) (sd_cons (se_type T.b_tuple (by decide +kernel)) sd_nil)) (by decide +kernel))) (sw_or1 (st_ne hr.units (se_b call_isi ok_is T.b_isinstance (sd_cons (se_var 0) (sd_cons (se_type T.b_list (by decide +kernel)) sd_nil)) (by decide +kernel)) (se_b call_isi ok_is T.b_isinstance (sd_cons (se_var 1) (sd_cons (se_type T.b_list (by decide +kernel)) sd_nil)) (by decide +kernel)))))) (ss_one (ss_ret se_bl)) ss_nil) (ss_cons (ss_if (SW.pt (sw_or (st_not (st_of (se_isT ["tuple", "list"] T.b_isinstance (se_var 0) (sd_cons (se_type T.b_tuple (by decide +kernel)) (sd_cons (se_type T.b_list (by decide +kernel)) sd_nil)) (by decide) (by decide +kernel)))) (sw_or1 (st_ne hr.units (se_b call_len ok_len T.b_len (sd_cons (se_var 0) sd_nil) (by decide +kernel)) (se_b call_len ok_len T.b_len (sd_cons (se_var 1) sd_nil) (by decide +kernel)))))) (ss_one (ss_ret se_bl)) ss_nil) (ss_one (ss_ret (se_b (cr_all rfl) ok_all T.b_all (sd_cons (SL.se (el_comp [("k", 2)] rfl hN (si_range1 T.b_range (sd_cons (se_b call_len ok_len T.b_len (sd_cons (se_var 0) sd_nil) (by decide +kernel)) sd_nil)) (fun _ _ _ _ _ => (sg_name 2 hN)) (fun _ _ _ _ _ => sts_nil) (fun _ _ _ _ _ => (se_call G__law_alike hr takes0 (sd_cons (se_ix (se_var 0) (se_var 2)) (sd_cons (se_ix (se_var 1) (se_var 2)) sd_nil)))) (blkOk_by (N := ["one", "two", "k"]) (sc := defScope (topS 30)) (by decide +kernel)))) sd_nil) (by decide +kernel)))))))))))
theorem sc__law_divisor : FnScope ["one", "two"] ["one", "two"] (defScope (topS 31)) := ⟨rfl, rfl, rfl, by decide +kernel, rfl, by decide +kernel, by decide +kernel⟩
theorem ok__law_divisor {P : Program} {w : World} {K : PySem.W.Frag} {mg : Str → Option Value} {base : Heap} {a_is_value_by : Addr} (T : Txt K mg a_is_value_by) : DefOk P w K mg base "_law_divisor" (topS 31) ["one", "two"] 1 none false F__law_divisor :=
  def_ok (k := 0) (io := none) (fr := false) (N := ["one", "two"]) (T := [0, 1]) (b := B__law_divisor) T.d__law_divisor sc__law_divisor fun f cdv A outer s H E hr tk hp =>
  have hN := sc__law_divisor.nd
  (ss_cons (ss_while 1000 hp (st_gt (se_var 1) se_int) (ss_one (ss_par2 0 1 rfl hN (sd_cons (se_var 1) (sd_cons (se_mod (se_bt call_int1 ok_int T.b_int (sd_cons (se_var 0) sd_nil) (by decide +kernel)) (se_var 1)) sd_nil)) rfl))) (ss_one (ss_ret (se_var 0))))
theorem sc__law_f : FnScope ["top", "low", "by"] ["top", "low"] (defScope (topS 32)) := ⟨rfl, rfl, rfl, by decide +kernel, rfl, by decide +kernel, by decide +kernel⟩
theorem ok__law_f {P : Program} {w : World} {K : PySem.W.Frag} {mg : Str → Option Value} {base : Heap} {a_is_value_by : Addr} (T : Txt K mg a_is_value_by)
    (G__law_divisor : DefOk P w K mg base "_law_divisor" (topS 31) ["one", "two"] 1 none false (F__law_divisor)) : DefOk P w K mg base "_law_f" (topS 32) ["top", "low"] 2 none false F__law_f :=
  def_ok (k := 1) (io := none) (fr := false) (N := ["top", "low", "by"]) (T := [0, 1, 2]) (b := B__law_f) T.d__law_f sc__law_f fun f cdv A outer s H E hr tk hp =>
  have hN := sc__law_f.nd
  (ss_cons (ss_set 2 hN (se_call G__law_divisor hr tk (sd_cons (se_b call_abs ok_int1 T.b_abs (sd_cons (se_var 0) sd_nil) (by decide +kernel)) (sd_cons (se_b call_abs ok_int1 T.b_abs (sd_cons (se_var 1) sd_nil) (by decide +kernel)) sd_nil)))) (ss_cons (ss_set 2 hN (se_if (st_gt (se_var 1) se_int) (se_var 2) (se_sub se_int (se_var 2)))) (ss_one (ss_ret (se_tup (sd_cons (se_div (se_var 0) (se_var 2)) (sd_cons (se_div (se_var 1) (se_var 2)) sd_nil)))))))
theorem sc__law_plus : FnScope ["one", "two"] ["one", "two"] (defScope (topS 33)) := ⟨rfl, rfl, rfl, by decide +kernel, rfl, by decide +kernel, by decide +kernel⟩
theorem ok__law_plus {P : Program} {w : World} {K : PySem.W.Frag} {mg : Str → Option Value} {base : Heap} {a_is_value_by : Addr} (T : Txt K mg a_is_value_by)
    (G__law_f : DefOk P w K mg base "_law_f" (topS 32) ["top", "low"] 2 none false (F__law_f)) : DefOk P w K mg base "_law_plus" (topS 33) ["one", "two"] 3 none false F__law_plus :=
  def_ok (k := 2) (io := none) (fr := false) (N := ["one", "two"]) (T := [0, 1]) (b := B__law_plus) T.d__law_plus sc__law_plus fun f cdv A outer s H E hr tk hp =>
  have hN := sc__law_plus.nd
  (ss_one (ss_ret (se_call G__law_f hr tk (sd_cons (se_add (se_mul (se_ix (se_var 0) se_int) (se_ix (se_var 1) se_int)) (se_mul (se_ix (se_var 1) se_int) (se_ix (se_var 0) se_int))) (sd_cons (se_mul (se_ix (se_var 0) se_int) (se_ix (se_var 1) se_int)) sd_nil)))))
theorem sc__law_by : FnScope ["one", "two"] ["one", "two"] (defScope (topS 34)) := ⟨rfl, rfl, rfl, by decide +kernel, rfl, by decide +kernel, by decide +kernel⟩
theorem ok__law_by {P : Program} {w : World} {K : PySem.W.Frag} {mg : Str → Option Value} {base : Heap} {a_is_value_by : Addr} (T : Txt K mg a_is_value_by)
    (G__law_f : DefOk P w K mg base "_law_f" (topS 32) ["top", "low"] 2 none false (F__law_f)) : DefOk P w K mg base "_law_by" (topS 34) ["one", "two"] 3 none false F__law_by :=
  def_ok (k := 2) (io := none) (fr := false) (N := ["one", "two"]) (T := [0, 1]) (b := B__law_by) T.d__law_by sc__law_by fun f cdv A outer s H E hr tk hp =>
  have hN := sc__law_by.nd
  (ss_one (ss_ret (se_call G__law_f hr tk (sd_cons (se_mul (se_ix (se_var 0) se_int) (se_ix (se_var 1) se_int)) (sd_cons (se_mul (se_ix (se_var 0) se_int) (se_ix (se_var 1) se_int)) sd_nil)))))
theorem sc__law_below : FnScope ["one", "two"] ["one", "two"] (defScope (topS 35)) := ⟨rfl, rfl, rfl, by decide +kernel, rfl, by decide +kernel, by decide +kernel⟩
theorem ok__law_below {P : Program} {w : World} {K : PySem.W.Frag} {mg : Str → Option Value} {base : Heap} {a_is_value_by : Addr} (T : Txt K mg a_is_value_by) : DefOk P w K mg base "_law_below" (topS 35) ["one", "two"] 1 none false F__law_below :=
  def_ok (k := 0) (io := none) (fr := false) (N := ["one", "two"]) (T := [0, 1]) (b := B__law_below) T.d__law_below sc__law_below fun f cdv A outer s H E hr tk hp =>
  have hN := sc__law_below.nd
  (ss_one (ss_ret (se_lt (se_mul (se_ix (se_var 0) se_int) (se_ix (se_var 1) se_int)) (se_mul (se_ix (se_var 1) se_int) (se_ix (se_var 0) se_int)))))
theorem sc__law_most : FnScope ["some", "found", "each"] ["some"] (defScope (topS 36)) := ⟨rfl, rfl, rfl, by decide +kernel, rfl, by decide +kernel, by decide +kernel⟩
theorem ok__law_most {P : Program} {w : World} {K : PySem.W.Frag} {mg : Str → Option Value} {base : Heap} {a_is_value_by : Addr} (T : Txt K mg a_is_value_by)
    (G__law_below : DefOk P w K mg base "_law_below" (topS 35) ["one", "two"] 1 none false (F__law_below)) : DefOk P w K mg base "_law_most" (topS 36) ["some"] 2 none false F__law_most :=
  def_ok (k := 1) (io := none) (fr := false) (N := ["some", "found", "each"]) (T := [0, 1, 2]) (b := B__law_most) T.d__law_most sc__law_most fun f cdv A outer s H E hr tk hp =>
  have hN := sc__law_most.nd
  (ss_cons (ss_set 1 hN (se_ix (se_var 0) se_int)) (ss_cons (ss_for rfl hp (si_row (se_var 0)) (sg_name 2 hN) (ss_one (ss_set 1 hN (se_if (st_of (se_call G__law_below hr tk (sd_cons (se_var 1) (sd_cons (se_var 2) sd_nil)))) (se_var 2) (se_var 1))))) (ss_one (ss_ret (se_var 1)))))
theorem sc__law_least : FnScope ["some", "found", "each"] ["some"] (defScope (topS 37)) := ⟨rfl, rfl, rfl, by decide +kernel, rfl, by decide +kernel, by decide +kernel⟩
theorem ok__law_least {P : Program} {w : World} {K : PySem.W.Frag} {mg : Str → Option Value} {base : Heap} {a_is_value_by : Addr} (T : Txt K mg a_is_value_by)
    (G__law_below : DefOk P w K mg base "_law_below" (topS 35) ["one", "two"] 1 none false (F__law_below)) : DefOk P w K mg base "_law_least" (topS 37) ["some"] 2 none false F__law_least :=
  def_ok (k := 1) (io := none) (fr := false) (N := ["some", "found", "each"]) (T := [0, 1, 2]) (b := B__law_least) T.d__law_least sc__law_least fun f cdv A outer s H E hr tk hp =>
  have hN := sc__law_least.nd
  (ss_cons (ss_set 1 hN (se_ix (se_var 0) se_int)) (ss_cons (ss_for rfl hp (si_row (se_var 0)) (sg_name 2 hN) (ss_one (ss_set 1 hN (se_if (st_of (se_call G__law_below hr tk (sd_cons (se_var 2) (sd_cons (se_var 1) sd_nil)))) (se_var 2) (se_var 1))))) (ss_one (ss_ret (se_var 1)))))
theorem sc__law_values : FnScope ["pool", "high", "many", "kind", "top", "same", "k"] ["pool", "high"] (defScope (topS 38)) := ⟨rfl, rfl, rfl, by decide +kernel, rfl, by decide +kernel, by decide +kernel⟩
theorem ok__law_values {P : Program} {w : World} {K : PySem.W.Frag} {mg : Str → Option Value} {base : Heap} {a_is_value_by : Addr} (T : Txt K mg a_is_value_by)
    (G__law_take : DefOk P w K mg base "_law_take" (topS 29) ["pool", "many"] 1 (some 0) false (F__law_take)) : DefOk P w K mg base "_law_values" (topS 38) ["pool", "high"] 2 (some 0) false F__law_values :=
  def_ok (k := 1) (io := (some 0)) (fr := false) (N := ["pool", "high", "many", "kind", "top", "same", "k"]) (T := [0, 1, 2, 3, 4, 5, 6]) (b := B__law_values) T.d__law_values sc__law_values fun f cdv A outer s H E hr tk hp =>
  have hN := sc__law_values.nd
  (ss_cons (ss_asg (se_tup (sd_cons (se_add se_int (se_callI G__law_take hr tk (sa_late 0 (sa_val (se_var 1) sa_nil)))) (sd_cons (se_callI G__law_take hr tk (sa_late 0 (sa_val se_int sa_nil))) sd_nil))) (sg_tup rfl (sgs_cons (sg_name 2 hN) (sgs_cons (sg_name 3 hN) sgs_nil)))) (ss_cons (ss_asg (se_tup (sd_cons (se_ix (se_tup (sd_cons se_int (sd_cons se_int (sd_cons se_int sd_nil)))) (se_callI G__law_take hr tk (sa_late 0 (sa_val se_int sa_nil)))) (sd_cons (se_add se_int (se_callI G__law_take hr tk (sa_late 0 (sa_val se_int sa_nil)))) sd_nil))) (sg_tup rfl (sgs_cons (sg_name 4 hN) (sgs_cons (sg_name 5 hN) sgs_nil)))) (ss_one (ss_ret (se_bt call_tuple_of ok_tup T.b_tuple (sd_cons (SL.se (el_comp [("k", 6)] rfl hN (si_range1 T.b_range (sd_cons (se_var 2) sd_nil)) (fun _ _ _ _ _ => (sg_name 6 hN)) (fun _ _ _ _ _ => sts_nil) (fun _ _ _ _ _ => (se_tup (sd_cons (se_sub (se_callI G__law_take hr takes0 (sa_late 0 (sa_val (se_add (se_mul se_int (se_var 4)) se_int) sa_nil))) (se_var 4)) (sd_cons (se_ix (se_tup (sd_cons (se_var 5) (sd_cons (se_add se_int (se_callI G__law_take hr takes0 (sa_late 0 (sa_val se_int sa_nil)))) (sd_cons (se_add se_int (se_callI G__law_take hr takes0 (sa_late 0 (sa_val se_int sa_nil)))) sd_nil)))) (se_var 3)) sd_nil)))) (blkOk_by (N := ["pool", "high", "many", "kind", "top", "same", "k"]) (sc := defScope (topS 38)) (by decide +kernel)))) sd_nil) (by decide +kernel))))))
theorem sc__law_mean : FnScope ["values", "low", "high", "some", "x", "w"] ["values", "low", "high"] (defScope (topS 39)) := ⟨rfl, rfl, rfl, by decide +kernel, rfl, by decide +kernel, by decide +kernel⟩
theorem ok__law_mean {P : Program} {w : World} {K : PySem.W.Frag} {mg : Str → Option Value} {base : Heap} {a_is_value_by : Addr} (T : Txt K mg a_is_value_by)
    (G__law_f : DefOk P w K mg base "_law_f" (topS 32) ["top", "low"] 2 none false (F__law_f)) : DefOk P w K mg base "_law_mean" (topS 39) ["values", "low", "high"] 3 none false F__law_mean :=
  def_ok (k := 2) (io := none) (fr := false) (N := ["values", "low", "high", "some", "x", "w"]) (T := [0, 1, 2, 3, 4, 5]) (b := B__law_mean) T.d__law_mean sc__law_mean fun f cdv A outer s H E hr tk hp =>
  have hN := sc__law_mean.nd
  (ss_cons (ss_set 3 hN (se_cut (se_var 0) (so_some (se_var 1)) (so_some (se_add (se_var 2) se_int)))) (ss_one (ss_ret (se_call G__law_f hr tk (sd_cons (se_b (cr_sum rfl) ok_sum T.b_sum (sd_cons (SL.se (el_comp [("x", 4), ("w", 5)] rfl hN (si_row (se_var 3)) (fun _ _ _ _ _ => (sg_tup rfl (sgs_cons (sg_name 4 hN) (sgs_cons (sg_name 5 hN) sgs_nil)))) (fun _ _ _ _ _ => sts_nil) (fun _ _ _ _ _ => (se_mul (se_var 4) (se_var 5))) (blkOk_by (N := ["values", "low", "high", "some", "x", "w"]) (sc := defScope (topS 39)) (by decide +kernel)))) sd_nil) (by decide +kernel)) (sd_cons (se_b (cr_sum rfl) ok_sum T.b_sum (sd_cons (SL.se (el_comp [("x", 4), ("w", 5)] rfl hN (si_row (se_var 3)) (fun _ _ _ _ _ => (sg_tup rfl (sgs_cons (sg_name 4 hN) (sgs_cons (sg_name 5 hN) sgs_nil)))) (fun _ _ _ _ _ => sts_nil) (fun _ _ _ _ _ => (se_var 5)) (blkOk_by (N := ["values", "low", "high", "some", "x", "w"]) (sc := defScope (topS 39)) (by decide +kernel)))) sd_nil) (by decide +kernel)) sd_nil))))))
theorem sc__law_rising : FnScope ["values", "place", "many", "found", "a", "b"] ["values"] (defScope (topS 40)) := ⟨rfl, rfl, rfl, by decide +kernel, rfl, by decide +kernel, by decide +kernel⟩
theorem ok__law_rising {P : Program} {w : World} {K : PySem.W.Frag} {mg : Str → Option Value} {base : Heap} {a_is_value_by : Addr} (T : Txt K mg a_is_value_by)
    (G__law_most : DefOk P w K mg base "_law_most" (topS 36) ["some"] 2 none false (F__law_most))
    (G__law_least : DefOk P w K mg base "_law_least" (topS 37) ["some"] 2 none false (F__law_least))
    (G__law_mean : DefOk P w K mg base "_law_mean" (topS 39) ["values", "low", "high"] 3 none false (F__law_mean)) : DefOk P w K mg base "_law_rising" (topS 40) ["values"] 4 none false F__law_rising :=
  def_ok (k := 3) (io := none) (fr := false) (N := ["values", "place", "many", "found", "a", "b"]) (T := [0, 1, 2, 3, 4, 5]) (b := B__law_rising) T.d__law_rising sc__law_rising fun f cdv A outer s H E hr tk hp =>
  have hN := sc__law_rising.nd
  (ss_cons (ss_tupN2 2 3 rfl hN (sp_val (se_b call_len ok_len T.b_len (sd_cons (se_var 0) sd_nil) (by decide +kernel)) (sp_new (el_lst sd_nil) sp_nil)) rfl) (ss_cons (ss_for rfl hp (si_range1 T.b_range (sd_cons (se_var 2) sd_nil)) (sg_name 1 hN) (ss_one (ss_app 3 (se_call G__law_most (hr.mono (by decide)) tk (sd_cons (SL.se (el_comp [("a", 4)] rfl hN (si_range1 T.b_range (sd_cons (se_add (se_var 1) se_int) sd_nil)) (fun _ _ _ _ _ => (sg_name 4 hN)) (fun _ _ _ _ _ => sts_nil) (fun _ _ _ _ _ => (se_call G__law_least (hr.mono (by decide)) takes0 (sd_cons (SL.se (el_comp [("b", 5)] rfl hN (si_range2 T.b_range (sd_cons (se_var 1) (sd_cons (se_var 2) sd_nil))) (fun _ _ _ _ _ => (sg_name 5 hN)) (fun _ _ _ _ _ => sts_nil) (fun _ _ _ _ _ => (se_call G__law_mean hr takes0 (sd_cons (se_var 0) (sd_cons (se_var 4) (sd_cons (se_var 5) sd_nil))))) (blkOk_in (N := ["values", "place", "many", "found", "a", "b"]) (envOfC "_law_rising" (defScope (topS 40)) 0 0 .none) rfl (by decide +kernel)))) sd_nil))) (blkOk_by (N := ["values", "place", "many", "found", "a", "b"]) (sc := defScope (topS 40)) (by decide +kernel)))) sd_nil))))) (ss_one (ss_ret (se_lend (S := []) 3 (se_bt call_tuple_of ok_tup T.b_tuple (sd_cons (se_var 3) sd_nil) (by decide +kernel)))))))
theorem sc__law_right : FnScope ["pool", "values", "place", "own", "due", "many", "other", "by", "much", "more", "x", "w", "b", "each", "a"] ["pool", "values"] (defScope (topS 41)) := ⟨rfl, rfl, rfl, by decide +kernel, rfl, by decide +kernel, by decide +kernel⟩
theorem ok__law_right {P : Program} {w : World} {K : PySem.W.Frag} {mg : Str → Option Value} {base : Heap} {a_is_value_by : Addr} (T : Txt K mg a_is_value_by)
    (G__law_rising : DefOk P w K mg base "_law_rising" (topS 40) ["values"] 4 none false (F__law_rising))
    (G__law_alike : DefOk P w K mg base "_law_alike" (topS 30) ["one", "two"] 11 none false (F__law_alike 10))
    (G__law_least : DefOk P w K mg base "_law_least" (topS 37) ["some"] 2 none false (F__law_least))
    (G_rising : DefOk P w K mg base "rising" (topS 26) ["values"] 7 none false (F_rising))
    (G__law_take : DefOk P w K mg base "_law_take" (topS 29) ["pool", "many"] 1 (some 0) false (F__law_take))
    (G__law_most : DefOk P w K mg base "_law_most" (topS 36) ["some"] 2 none false (F__law_most))
    (G__law_below : DefOk P w K mg base "_law_below" (topS 35) ["one", "two"] 1 none false (F__law_below))
    (G__law_plus : DefOk P w K mg base "_law_plus" (topS 33) ["one", "two"] 3 none false (F__law_plus))
    (G__law_mean : DefOk P w K mg base "_law_mean" (topS 39) ["values", "low", "high"] 3 none false (F__law_mean))
    (G__law_by : DefOk P w K mg base "_law_by" (topS 34) ["one", "two"] 3 none false (F__law_by)) : DefOk P w K mg base "_law_right" (topS 41) ["pool", "values"] 12 (some 0) false F__law_right :=
  def_ok (k := 11) (io := (some 0)) (fr := false) (N := ["pool", "values", "place", "own", "due", "many", "other", "by", "much", "more", "x", "w", "b", "each", "a"]) (T := [0, 1, 2, 3, 4, 5, 6, 7, 8, 9, 10, 11, 12, 13, 14]) (b := B__law_right) T.d__law_right sc__law_right fun f cdv A outer s H E hr tk hp =>
  have hN := sc__law_right.nd
  (ss_cons (ss_par2 4 5 rfl hN (sd_cons (se_call G__law_rising (hr.mono (by decide)) tk (sd_cons (se_var 1) sd_nil)) (sd_cons (se_b call_len ok_len T.b_len (sd_cons (se_var 1) sd_nil) (by decide +kernel)) sd_nil)) rfl) (ss_cons (ss_if (st_not (st_of (se_call G__law_alike hr tk (sd_cons (se_tup (sd_cons (se_call G_rising (hr.mono (by decide)) tk (sd_cons (se_var 1) sd_nil)) (sd_cons (se_callKw (ks := ["values"]) [0] G_rising (hr.mono (by decide)) tk (sk_cons (se_var 1) sk_nil) (fun _ _ _ _ _ _ ws hl => match ws, hl with | [_], _ => rfl)) sd_nil))) (sd_cons (se_tup (sd_cons (se_var 4) (sd_cons (se_var 4) sd_nil))) sd_nil))))) (ss_one (ss_ret se_bl)) ss_nil) (ss_cons (ss_for rfl hp (si_range1 T.b_range (sd_cons (se_var 5) sd_nil)) (sg_name 2 hN) (ss_cons (ss_set 6 hN (se_call G__law_least (hr.mono (by decide)) tk (sd_cons (SL.se (el_comp [("b", 12)] rfl hN (si_range2 T.b_range (sd_cons (se_var 2) (sd_cons (se_var 5) sd_nil))) (fun _ _ _ _ _ => (sg_name 12 hN)) (fun _ _ _ _ _ => sts_nil) (fun _ _ _ _ _ => (se_call G__law_most (hr.mono (by decide)) takes0 (sd_cons (SL.se (el_comp [("a", 14)] rfl hN (si_range1 T.b_range (sd_cons (se_add (se_var 2) se_int) sd_nil)) (fun _ _ _ _ _ => (sg_name 14 hN)) (fun _ _ _ _ _ => sts_nil) (fun _ _ _ _ _ => (se_call G__law_mean (hr.mono (by decide)) takes0 (sd_cons (se_var 1) (sd_cons (se_var 14) (sd_cons (se_var 12) sd_nil))))) (blkOk_in (N := ["pool", "values", "place", "own", "due", "many", "other", "by", "much", "more", "x", "w", "b", "each", "a"]) (envOfC "_law_right" (defScope (topS 41)) 0 0 .none) rfl (by decide +kernel)))) sd_nil))) (blkOk_by (N := ["pool", "values", "place", "own", "due", "many", "other", "by", "much", "more", "x", "w", "b", "each", "a"]) (sc := defScope (topS 41)) (by decide +kernel)))) sd_nil))) (ss_one (ss_if (SW.pt (sw_or (st_ne hr.units (se_var 6) (se_ix (se_var 4) (se_var 2))) (sw_or1 (SW.pt (sw_and (st_gt (se_var 2) se_int) (sw_and1 (st_of (se_call G__law_below (hr.mono (by decide)) tk (sd_cons (se_ix (se_var 4) (se_var 2)) (sd_cons (se_ix (se_var 4) (se_sub (se_var 2) se_int)) sd_nil)))))))))) (ss_one (ss_ret se_bl)) ss_nil)))) (ss_cons (ss_setComp 3 [("x", 10), ("w", 11)] rfl hN (si_row (se_var 1)) (fun _ _ _ _ _ => (sg_tup rfl (sgs_cons (sg_name 10 hN) (sgs_cons (sg_name 11 hN) sgs_nil)))) (fun _ _ _ _ _ => sts_nil) (fun _ _ _ _ _ => (se_var 10)) (blkOk_by (N := ["pool", "values", "place", "own", "due", "many", "other", "by", "much", "more", "x", "w", "b", "each", "a"]) (sc := defScope (topS 41)) (by decide +kernel)) (sw_true rfl rfl rfl (by decide +kernel))) (ss_cons (ss_if (st_ne hr.units (se_eq hr.units (se_var 4) (se_bt call_tuple_of ok_tup T.b_tuple (sd_cons (SL.se (el_comp [("x", 10)] rfl hN (si_row (se_var 3)) (fun _ _ _ _ _ => (sg_name 10 hN)) (fun _ _ _ _ _ => sts_nil) (fun _ _ _ _ _ => (se_tup (sd_cons (se_var 10) (sd_cons se_int sd_nil)))) (blkOk_by (N := ["pool", "values", "place", "own", "due", "many", "other", "by", "much", "more", "x", "w", "b", "each", "a"]) (sc := defScope (topS 41)) (by decide +kernel)))) sd_nil) (by decide +kernel))) (se_eq hr.units (se_var 3) (SL.se (el_sort T.b_sorted (sd_cons (se_var 3) sd_nil))))) (ss_one (ss_ret se_bl)) ss_nil) (ss_cons (ss_asg (se_tup (sd_cons (se_sub (se_callI G__law_take (hr.mono (by decide)) tk (sa_late 0 (sa_val se_int sa_nil))) se_int) (sd_cons (se_add se_int (se_callI G__law_take (hr.mono (by decide)) tk (sa_late 0 (sa_val se_int sa_nil)))) sd_nil))) (sg_tup rfl (sgs_cons (sg_name 7 hN) (sgs_cons (sg_name 8 hN) sgs_nil)))) (ss_cons (ss_if (st_lt (se_b (cr_max rfl) ok_max T.b_max (sd_cons (SL.se (el_comp [("x", 10)] rfl hN (si_row (se_var 3)) (fun _ _ _ _ _ => (sg_name 10 hN)) (fun _ _ _ _ _ => sts_nil) (fun _ _ _ _ _ => (se_b call_abs ok_int1 T.b_abs (sd_cons (se_var 10) sd_nil) (by decide +kernel))) (blkOk_by (N := ["pool", "values", "place", "own", "due", "many", "other", "by", "much", "more", "x", "w", "b", "each", "a"]) (sc := defScope (topS 41)) (by decide +kernel)))) sd_nil) (by decide +kernel)) se_int) (ss_cons (ss_set 9 hN (se_call G_rising (hr.mono (by decide)) tk (sd_cons (se_bt call_tuple_of ok_tup T.b_tuple (sd_cons (SL.se (el_comp [("x", 10), ("w", 11)] rfl hN (si_row (se_var 1)) (fun _ _ _ _ _ => (sg_tup rfl (sgs_cons (sg_name 10 hN) (sgs_cons (sg_name 11 hN) sgs_nil)))) (fun _ _ _ _ _ => sts_nil) (fun _ _ _ _ _ => (se_tup (sd_cons (se_add (se_mul (se_var 8) (se_var 10)) (se_var 7)) (sd_cons (se_var 11) sd_nil)))) (blkOk_by (N := ["pool", "values", "place", "own", "due", "many", "other", "by", "much", "more", "x", "w", "b", "each", "a"]) (sc := defScope (topS 41)) (by decide +kernel)))) sd_nil) (by decide +kernel)) sd_nil))) (ss_one (ss_if (st_ne hr.units (se_var 9) (se_bt call_tuple_of ok_tup T.b_tuple (sd_cons (SL.se (el_comp [("each", 13)] rfl hN (si_row (se_var 4)) (fun _ _ _ _ _ => (sg_name 13 hN)) (fun _ _ _ _ _ => sts_nil) (fun _ _ _ _ _ => (se_call G__law_plus (hr.mono (by decide)) takes0 (sd_cons (se_call G__law_by (hr.mono (by decide)) takes0 (sd_cons (se_var 13) (sd_cons (se_tup (sd_cons (se_var 8) (sd_cons se_int sd_nil))) sd_nil))) (sd_cons (se_tup (sd_cons (se_var 7) (sd_cons se_int sd_nil))) sd_nil)))) (blkOk_by (N := ["pool", "values", "place", "own", "due", "many", "other", "by", "much", "more", "x", "w", "b", "each", "a"]) (sc := defScope (topS 41)) (by decide +kernel)))) sd_nil) (by decide +kernel))) (ss_one (ss_ret se_bl)) ss_nil))) ss_nil) (ss_one (ss_ret (se_or (se_gt (se_b (cr_max rfl) ok_max T.b_max (sd_cons (SL.se (el_comp [("x", 10), ("w", 11)] rfl hN (si_row (se_var 1)) (fun _ _ _ _ _ => (sg_tup rfl (sgs_cons (sg_name 10 hN) (sgs_cons (sg_name 11 hN) sgs_nil)))) (fun _ _ _ _ _ => sts_nil) (fun _ _ _ _ _ => (se_var 11)) (blkOk_by (N := ["pool", "values", "place", "own", "due", "many", "other", "by", "much", "more", "x", "w", "b", "each", "a"]) (sc := defScope (topS 41)) (by decide +kernel)))) sd_nil) (by decide +kernel)) se_int) (se_one (se_eq hr.units (se_call G_rising (hr.mono (by decide)) tk (sd_cons (se_bt call_tuple_of ok_tup T.b_tuple (sd_cons (SL.se (el_comp [("x", 10), ("w", 11)] rfl hN (si_row (se_var 1)) (fun _ _ _ _ _ => (sg_tup rfl (sgs_cons (sg_name 10 hN) (sgs_cons (sg_name 11 hN) sgs_nil)))) (fun _ _ _ _ _ => sts_nil) (fun _ _ _ _ _ => (se_tup (sd_cons (se_var 10) (sd_cons (se_mul (se_var 11) (se_var 8)) sd_nil)))) (blkOk_by (N := ["pool", "values", "place", "own", "due", "many", "other", "by", "much", "more", "x", "w", "b", "each", "a"]) (sc := defScope (topS 41)) (by decide +kernel)))) sd_nil) (by decide +kernel)) sd_nil)) (se_var 4)))))))))))))
theorem sc_law : FnScope ["script", "turn", "k", "pool"] ["script"] (defScope (topS 42)) := ⟨rfl, rfl, rfl, by decide +kernel, rfl, by decide +kernel, by decide +kernel⟩
theorem ok_law {P : Program} {w : World} {K : PySem.W.Frag} {mg : Str → Option Value} {base : Heap} {a_is_value_by : Addr} (T : Txt K mg a_is_value_by)
    (G__law_pool : DefOk P w K mg base "_law_pool" (topS 28) ["script", "k"] 1 none true (F__law_pool))
    (G__law_right : DefOk P w K mg base "_law_right" (topS 41) ["pool", "values"] 12 (some 0) false (F__law_right))
    (G_rising : DefOk P w K mg base "rising" (topS 26) ["values"] 7 none false (F_rising))
    (G__law_values : DefOk P w K mg base "_law_values" (topS 38) ["pool", "high"] 2 (some 0) false (F__law_values)) : DefOk P w K mg base "law" (topS 42) ["script"] 13 none false F_law :=
  def_ok (k := 12) (io := none) (fr := false) (N := ["script", "turn", "k", "pool"]) (T := [0, 1, 2, 3]) (b := B_law) T.d_law sc_law fun f cdv A outer s H E hr tk hp =>
  have hN := sc_law.nd
  (ss_cons (ss_for rfl hp (si_range1 T.b_range (sd_cons (se_b (call_min2 rfl) ok_int2 T.b_min (sd_cons se_int (sd_cons (se_b (call_max2 rfl) ok_int2 T.b_max (sd_cons se_int (sd_cons (se_b call_len ok_len T.b_len (sd_cons (se_var 0) sd_nil) (by decide +kernel)) sd_nil)) (by decide +kernel)) sd_nil)) (by decide +kernel)) sd_nil)) (sg_name 1 hN) (ss_cons (ss_setL 3 hN (el_call G__law_pool (hr.mono (by decide)) tk (sd_cons (se_var 0) (sd_cons (se_var 1) sd_nil)))) (ss_one (ss_if (st_not (st_of (se_b (cr_all rfl) ok_all T.b_all (sd_cons (SL.se (el_comp [("k", 2)] rfl hN (si_range1 T.b_range (sd_cons se_int sd_nil)) (fun _ _ _ _ _ => (sg_name 2 hN)) (fun _ _ _ _ _ => sts_nil) (fun _ _ _ _ _ => (se_callI G__law_right hr takes0 (sa_late 3 (sa_val (se_callI G__law_values (hr.mono (by decide)) takes0 (sa_late 3 (sa_val se_int sa_nil))) sa_nil)))) (blkOk_by (N := ["script", "turn", "k", "pool"]) (sc := defScope (topS 42)) (by decide +kernel)))) sd_nil) (by decide +kernel)))) (ss_one (ss_ret se_bl)) ss_nil)))) (ss_cons (ss_for rfl hp (si_range1 T.b_range (sd_cons se_int sd_nil)) (sg_name 2 hN) (ss_one (ss_if (st_not (st_of (se_callN G__law_right hr tk (sp_new (el_call G__law_pool (hr.mono (by decide)) tk (sd_cons (se_var 0) (sd_cons se_int sd_nil))) (sp_val (se_tup (sd_cons (se_tup (sd_cons (se_mod (se_bt call_int1 ok_int T.b_int (sd_cons (se_var 2) sd_nil) (by decide +kernel)) se_int) (sd_cons se_int sd_nil))) (sd_cons (se_tup (sd_cons (se_mod (se_bt call_int1 ok_int T.b_int (sd_cons (se_div (se_var 2) se_int) sd_nil) (by decide +kernel)) se_int) (sd_cons se_int sd_nil))) (sd_cons (se_tup (sd_cons (se_div (se_var 2) se_int) (sd_cons se_int sd_nil))) sd_nil)))) sp_nil))))) (ss_one (ss_ret se_bl)) ss_nil))) (ss_one (ss_ret (se_and (se_eq hr.units (se_call G_rising (hr.mono (by decide)) tk (sd_cons (se_tup (sd_cons (se_tup (sd_cons se_int (sd_cons se_int sd_nil))) (sd_cons (se_tup (sd_cons se_int (sd_cons se_int sd_nil))) (sd_cons (se_tup (sd_cons se_int (sd_cons se_int sd_nil))) sd_nil)))) sd_nil)) (se_tup (sd_cons (se_tup (sd_cons se_int (sd_cons se_int sd_nil))) (sd_cons (se_tup (sd_cons se_int (sd_cons se_int sd_nil))) (sd_cons (se_tup (sd_cons se_int (sd_cons se_int sd_nil))) sd_nil))))) (se_one (se_eq hr.units (se_call G_rising (hr.mono (by decide)) tk (sd_cons (se_tup (sd_cons (se_tup (sd_cons se_int (sd_cons se_int sd_nil))) (sd_cons (se_tup (sd_cons se_int (sd_cons se_int sd_nil))) sd_nil))) sd_nil)) (se_tup (sd_cons (se_tup (sd_cons se_int (sd_cons se_int sd_nil))) (sd_cons (se_tup (sd_cons se_int (sd_cons se_int sd_nil))) sd_nil))))))))))
theorem ok_every {P : Program} {w : World} {K : PySem.W.Frag} {mg : Str → Option Value} {base : Heap} {a_is_value_by : Addr} (T : Txt K mg a_is_value_by) : DefOk P w K mg base "law" (topS 42) ["script"] 13 none false F_law :=
  have G_is_whole := ok_is_whole (P := P) (w := w) (base := base) T
  have G_is_between := ok_is_between (P := P) (w := w) (base := base) T G_is_whole
  have G_is_tuple_of := ok_is_tuple_of (P := P) (w := w) (base := base) T
  have G_is_value_by := ok_is_value_by (P := P) (w := w) (base := base) T G_is_tuple_of G_is_between
  have G_first_wrong__is_value_by := ok_first_wrong__is_value_by (P := P) (w := w) (base := base) T G_is_value_by
  have G_fraction := ok_fraction (P := P) (w := w) (base := base) T
  have G_is_less := ok_is_less (P := P) (w := w) (base := base) T
  have G_greater_of := ok_greater_of (P := P) (w := w) (base := base) T G_is_less
  have G_lesser_of := ok_lesser_of (P := P) (w := w) (base := base) T G_is_less
  have G_greatest_of := ok_greatest_of (P := P) (w := w) (base := base) T G_greater_of
  have G_least_of := ok_least_of (P := P) (w := w) (base := base) T G_lesser_of
  have G_wrong_in_values := ok_wrong_in_values (P := P) (w := w) (base := base) T G_first_wrong__is_value_by
  have G_mean_by := ok_mean_by (P := P) (w := w) (base := base) T G_fraction
  have G_least_mean := ok_least_mean (P := P) (w := w) (base := base) T G_least_of G_mean_by
  have G_rising_by := ok_rising_by (P := P) (w := w) (base := base) T G_greatest_of G_least_mean
  have G_check_values := ok_check_values (P := P) (w := w) (base := base) T G_wrong_in_values
  have G_rising := ok_rising (P := P) (w := w) (base := base) T G_check_values G_rising_by
  have G__law_pool := ok__law_pool (P := P) (w := w) (base := base) T
  have G__law_take := ok__law_take (P := P) (w := w) (base := base) T
  have G__law_alike := ok__law_alike (P := P) (w := w) (base := base) T 10
  have G__law_divisor := ok__law_divisor (P := P) (w := w) (base := base) T
  have G__law_f := ok__law_f (P := P) (w := w) (base := base) T G__law_divisor
  have G__law_plus := ok__law_plus (P := P) (w := w) (base := base) T G__law_f
  have G__law_by := ok__law_by (P := P) (w := w) (base := base) T G__law_f
  have G__law_below := ok__law_below (P := P) (w := w) (base := base) T
  have G__law_most := ok__law_most (P := P) (w := w) (base := base) T G__law_below
  have G__law_least := ok__law_least (P := P) (w := w) (base := base) T G__law_below
  have G__law_values := ok__law_values (P := P) (w := w) (base := base) T G__law_take
  have G__law_mean := ok__law_mean (P := P) (w := w) (base := base) T G__law_f
  have G__law_rising := ok__law_rising (P := P) (w := w) (base := base) T G__law_most G__law_least G__law_mean
  have G__law_right := ok__law_right (P := P) (w := w) (base := base) T G__law_rising G__law_alike G__law_least G_rising G__law_take G__law_most G__law_below G__law_plus G__law_mean G__law_by
  have G_law := ok_law (P := P) (w := w) (base := base) T G__law_pool G__law_right G_rising G__law_values
  G_law
end FL
namespace FL
open PySem PySem.Spec L2
theorem all_mk {l : PySem.W.OpenLaw} {w : World} {K : PySem.W.Frag} {h : Heap} {mg : Str → Option Value} {fa : Addr} (pl : Plain F_law) (X : K.In h) (G : h.Ns mainGlobals mg) (hfa : mg "law" = some (.ref fa))
    {od0 an0 : Option Addr} {sl0 : Array (Option Value)} {oc0 kV0 dc0 pm0 cd0 ct0 : Value} {f0 : Addr} (a0 : PySem.W.nsIn K mainGlobals "is_whole" = some (some (.ref f0))) (l0 : K.lookup f0 = some ⟨oc0, od0, .func (PySem.W.fnOf "is_whole" "is_whole" (defArgs (topS 2)) (defBody (topS 2)) (defScope (topS 2)) .none kV0 dc0 pm0 an0 cd0 ct0), sl0⟩) (c0 : PySem.W.codeIn K cd0 "is_whole" = true) (k0 : PySem.W.keepIn K (.ref f0) = true)
    {od1 an1 : Option Addr} {sl1 : Array (Option Value)} {oc1 kV1 dc1 pm1 cd1 ct1 : Value} {f1 : Addr} (a1 : PySem.W.nsIn K mainGlobals "is_between" = some (some (.ref f1))) (l1 : K.lookup f1 = some ⟨oc1, od1, .func (PySem.W.fnOf "is_between" "is_between" (defArgs (topS 3)) (defBody (topS 3)) (defScope (topS 3)) .none kV1 dc1 pm1 an1 cd1 ct1), sl1⟩) (c1 : PySem.W.codeIn K cd1 "is_between" = true) (k1 : PySem.W.keepIn K (.ref f1) = true)
    {od2 an2 : Option Addr} {sl2 : Array (Option Value)} {oc2 kV2 dc2 pm2 cd2 ct2 : Value} {f2 : Addr} (a2 : PySem.W.nsIn K mainGlobals "is_tuple_of" = some (some (.ref f2))) (l2 : K.lookup f2 = some ⟨oc2, od2, .func (PySem.W.fnOf "is_tuple_of" "is_tuple_of" (defArgs (topS 4)) (defBody (topS 4)) (defScope (topS 4)) .none kV2 dc2 pm2 an2 cd2 ct2), sl2⟩) (c2 : PySem.W.codeIn K cd2 "is_tuple_of" = true) (k2 : PySem.W.keepIn K (.ref f2) = true)
    {od3 an3 : Option Addr} {sl3 : Array (Option Value)} {oc3 kV3 dc3 pm3 cd3 ct3 : Value} {f3 : Addr} (a3 : PySem.W.nsIn K mainGlobals "first_wrong" = some (some (.ref f3))) (l3 : K.lookup f3 = some ⟨oc3, od3, .func (PySem.W.fnOf "first_wrong" "first_wrong" (defArgs (topS 5)) (defBody (topS 5)) (defScope (topS 5)) .none kV3 dc3 pm3 an3 cd3 ct3), sl3⟩) (c3 : PySem.W.codeIn K cd3 "first_wrong" = true) (k3 : PySem.W.keepIn K (.ref f3) = true)
    {od4 an4 : Option Addr} {sl4 : Array (Option Value)} {oc4 kV4 dc4 pm4 cd4 ct4 : Value} {f4 : Addr} (a4 : PySem.W.nsIn K mainGlobals "fraction" = some (some (.ref f4))) (l4 : K.lookup f4 = some ⟨oc4, od4, .func (PySem.W.fnOf "fraction" "fraction" (defArgs (topS 6)) (defBody (topS 6)) (defScope (topS 6)) .none kV4 dc4 pm4 an4 cd4 ct4), sl4⟩) (c4 : PySem.W.codeIn K cd4 "fraction" = true) (k4 : PySem.W.keepIn K (.ref f4) = true)
    {od5 an5 : Option Addr} {sl5 : Array (Option Value)} {oc5 kV5 dc5 pm5 cd5 ct5 : Value} {f5 : Addr} (a5 : PySem.W.nsIn K mainGlobals "is_less" = some (some (.ref f5))) (l5 : K.lookup f5 = some ⟨oc5, od5, .func (PySem.W.fnOf "is_less" "is_less" (defArgs (topS 7)) (defBody (topS 7)) (defScope (topS 7)) .none kV5 dc5 pm5 an5 cd5 ct5), sl5⟩) (c5 : PySem.W.codeIn K cd5 "is_less" = true) (k5 : PySem.W.keepIn K (.ref f5) = true)
    {od6 an6 : Option Addr} {sl6 : Array (Option Value)} {oc6 kV6 dc6 pm6 cd6 ct6 : Value} {f6 : Addr} (a6 : PySem.W.nsIn K mainGlobals "greater_of" = some (some (.ref f6))) (l6 : K.lookup f6 = some ⟨oc6, od6, .func (PySem.W.fnOf "greater_of" "greater_of" (defArgs (topS 8)) (defBody (topS 8)) (defScope (topS 8)) .none kV6 dc6 pm6 an6 cd6 ct6), sl6⟩) (c6 : PySem.W.codeIn K cd6 "greater_of" = true) (k6 : PySem.W.keepIn K (.ref f6) = true)
    {od7 an7 : Option Addr} {sl7 : Array (Option Value)} {oc7 kV7 dc7 pm7 cd7 ct7 : Value} {f7 : Addr} (a7 : PySem.W.nsIn K mainGlobals "lesser_of" = some (some (.ref f7))) (l7 : K.lookup f7 = some ⟨oc7, od7, .func (PySem.W.fnOf "lesser_of" "lesser_of" (defArgs (topS 9)) (defBody (topS 9)) (defScope (topS 9)) .none kV7 dc7 pm7 an7 cd7 ct7), sl7⟩) (c7 : PySem.W.codeIn K cd7 "lesser_of" = true) (k7 : PySem.W.keepIn K (.ref f7) = true)
    {od8 an8 : Option Addr} {sl8 : Array (Option Value)} {oc8 kV8 dc8 pm8 cd8 ct8 : Value} {f8 : Addr} (a8 : PySem.W.nsIn K mainGlobals "greatest_of" = some (some (.ref f8))) (l8 : K.lookup f8 = some ⟨oc8, od8, .func (PySem.W.fnOf "greatest_of" "greatest_of" (defArgs (topS 10)) (defBody (topS 10)) (defScope (topS 10)) .none kV8 dc8 pm8 an8 cd8 ct8), sl8⟩) (c8 : PySem.W.codeIn K cd8 "greatest_of" = true) (k8 : PySem.W.keepIn K (.ref f8) = true)
    {od9 an9 : Option Addr} {sl9 : Array (Option Value)} {oc9 kV9 dc9 pm9 cd9 ct9 : Value} {f9 : Addr} (a9 : PySem.W.nsIn K mainGlobals "least_of" = some (some (.ref f9))) (l9 : K.lookup f9 = some ⟨oc9, od9, .func (PySem.W.fnOf "least_of" "least_of" (defArgs (topS 11)) (defBody (topS 11)) (defScope (topS 11)) .none kV9 dc9 pm9 an9 cd9 ct9), sl9⟩) (c9 : PySem.W.codeIn K cd9 "least_of" = true) (k9 : PySem.W.keepIn K (.ref f9) = true)
    {od10 an10 : Option Addr} {sl10 : Array (Option Value)} {oc10 kV10 dc10 pm10 cd10 ct10 : Value} {f10 : Addr} (a10 : PySem.W.nsIn K mainGlobals "is_value_by" = some (some (.ref f10))) (l10 : K.lookup f10 = some ⟨oc10, od10, .func (PySem.W.fnOf "is_value_by" "is_value_by" (defArgs (topS 19)) (defBody (topS 19)) (defScope (topS 19)) .none kV10 dc10 pm10 an10 cd10 ct10), sl10⟩) (c10 : PySem.W.codeIn K cd10 "is_value_by" = true) (k10 : PySem.W.keepIn K (.ref f10) = true)
    {od11 an11 : Option Addr} {sl11 : Array (Option Value)} {oc11 kV11 dc11 pm11 cd11 ct11 : Value} {f11 : Addr} (a11 : PySem.W.nsIn K mainGlobals "wrong_in_values" = some (some (.ref f11))) (l11 : K.lookup f11 = some ⟨oc11, od11, .func (PySem.W.fnOf "wrong_in_values" "wrong_in_values" (defArgs (topS 20)) (defBody (topS 20)) (defScope (topS 20)) .none kV11 dc11 pm11 an11 cd11 ct11), sl11⟩) (c11 : PySem.W.codeIn K cd11 "wrong_in_values" = true) (k11 : PySem.W.keepIn K (.ref f11) = true)
    {od12 an12 : Option Addr} {sl12 : Array (Option Value)} {oc12 kV12 dc12 pm12 cd12 ct12 : Value} {f12 : Addr} (a12 : PySem.W.nsIn K mainGlobals "mean_by" = some (some (.ref f12))) (l12 : K.lookup f12 = some ⟨oc12, od12, .func (PySem.W.fnOf "mean_by" "mean_by" (defArgs (topS 21)) (defBody (topS 21)) (defScope (topS 21)) .none kV12 dc12 pm12 an12 cd12 ct12), sl12⟩) (c12 : PySem.W.codeIn K cd12 "mean_by" = true) (k12 : PySem.W.keepIn K (.ref f12) = true)
    {od13 an13 : Option Addr} {sl13 : Array (Option Value)} {oc13 kV13 dc13 pm13 cd13 ct13 : Value} {f13 : Addr} (a13 : PySem.W.nsIn K mainGlobals "least_mean" = some (some (.ref f13))) (l13 : K.lookup f13 = some ⟨oc13, od13, .func (PySem.W.fnOf "least_mean" "least_mean" (defArgs (topS 22)) (defBody (topS 22)) (defScope (topS 22)) .none kV13 dc13 pm13 an13 cd13 ct13), sl13⟩) (c13 : PySem.W.codeIn K cd13 "least_mean" = true) (k13 : PySem.W.keepIn K (.ref f13) = true)
    {od14 an14 : Option Addr} {sl14 : Array (Option Value)} {oc14 kV14 dc14 pm14 cd14 ct14 : Value} {f14 : Addr} (a14 : PySem.W.nsIn K mainGlobals "rising_by" = some (some (.ref f14))) (l14 : K.lookup f14 = some ⟨oc14, od14, .func (PySem.W.fnOf "rising_by" "rising_by" (defArgs (topS 23)) (defBody (topS 23)) (defScope (topS 23)) .none kV14 dc14 pm14 an14 cd14 ct14), sl14⟩) (c14 : PySem.W.codeIn K cd14 "rising_by" = true) (k14 : PySem.W.keepIn K (.ref f14) = true)
    {od15 an15 : Option Addr} {sl15 : Array (Option Value)} {oc15 kV15 dc15 pm15 cd15 ct15 : Value} {f15 : Addr} (a15 : PySem.W.nsIn K mainGlobals "check_values" = some (some (.ref f15))) (l15 : K.lookup f15 = some ⟨oc15, od15, .func (PySem.W.fnOf "check_values" "check_values" (defArgs (topS 25)) (defBody (topS 25)) (defScope (topS 25)) .none kV15 dc15 pm15 an15 cd15 ct15), sl15⟩) (c15 : PySem.W.codeIn K cd15 "check_values" = true) (k15 : PySem.W.keepIn K (.ref f15) = true)
    {od16 an16 : Option Addr} {sl16 : Array (Option Value)} {oc16 kV16 dc16 pm16 cd16 ct16 : Value} {f16 : Addr} (a16 : PySem.W.nsIn K mainGlobals "rising" = some (some (.ref f16))) (l16 : K.lookup f16 = some ⟨oc16, od16, .func (PySem.W.fnOf "rising" "rising" (defArgs (topS 26)) (defBody (topS 26)) (defScope (topS 26)) .none kV16 dc16 pm16 an16 cd16 ct16), sl16⟩) (c16 : PySem.W.codeIn K cd16 "rising" = true) (k16 : PySem.W.keepIn K (.ref f16) = true)
    {od17 an17 : Option Addr} {sl17 : Array (Option Value)} {oc17 kV17 dc17 pm17 cd17 ct17 : Value} {f17 : Addr} (a17 : PySem.W.nsIn K mainGlobals "_law_pool" = some (some (.ref f17))) (l17 : K.lookup f17 = some ⟨oc17, od17, .func (PySem.W.fnOf "_law_pool" "_law_pool" (defArgs (topS 28)) (defBody (topS 28)) (defScope (topS 28)) .none kV17 dc17 pm17 an17 cd17 ct17), sl17⟩) (c17 : PySem.W.codeIn K cd17 "_law_pool" = true) (k17 : PySem.W.keepIn K (.ref f17) = true)
    {od18 an18 : Option Addr} {sl18 : Array (Option Value)} {oc18 kV18 dc18 pm18 cd18 ct18 : Value} {f18 : Addr} (a18 : PySem.W.nsIn K mainGlobals "_law_take" = some (some (.ref f18))) (l18 : K.lookup f18 = some ⟨oc18, od18, .func (PySem.W.fnOf "_law_take" "_law_take" (defArgs (topS 29)) (defBody (topS 29)) (defScope (topS 29)) .none kV18 dc18 pm18 an18 cd18 ct18), sl18⟩) (c18 : PySem.W.codeIn K cd18 "_law_take" = true) (k18 : PySem.W.keepIn K (.ref f18) = true)
    {od19 an19 : Option Addr} {sl19 : Array (Option Value)} {oc19 kV19 dc19 pm19 cd19 ct19 : Value} {f19 : Addr} (a19 : PySem.W.nsIn K mainGlobals "_law_alike" = some (some (.ref f19))) (l19 : K.lookup f19 = some ⟨oc19, od19, .func (PySem.W.fnOf "_law_alike" "_law_alike" (defArgs (topS 30)) (defBody (topS 30)) (defScope (topS 30)) .none kV19 dc19 pm19 an19 cd19 ct19), sl19⟩) (c19 : PySem.W.codeIn K cd19 "_law_alike" = true) (k19 : PySem.W.keepIn K (.ref f19) = true)
    {od20 an20 : Option Addr} {sl20 : Array (Option Value)} {oc20 kV20 dc20 pm20 cd20 ct20 : Value} {f20 : Addr} (a20 : PySem.W.nsIn K mainGlobals "_law_divisor" = some (some (.ref f20))) (l20 : K.lookup f20 = some ⟨oc20, od20, .func (PySem.W.fnOf "_law_divisor" "_law_divisor" (defArgs (topS 31)) (defBody (topS 31)) (defScope (topS 31)) .none kV20 dc20 pm20 an20 cd20 ct20), sl20⟩) (c20 : PySem.W.codeIn K cd20 "_law_divisor" = true) (k20 : PySem.W.keepIn K (.ref f20) = true)
    {od21 an21 : Option Addr} {sl21 : Array (Option Value)} {oc21 kV21 dc21 pm21 cd21 ct21 : Value} {f21 : Addr} (a21 : PySem.W.nsIn K mainGlobals "_law_f" = some (some (.ref f21))) (l21 : K.lookup f21 = some ⟨oc21, od21, .func (PySem.W.fnOf "_law_f" "_law_f" (defArgs (topS 32)) (defBody (topS 32)) (defScope (topS 32)) .none kV21 dc21 pm21 an21 cd21 ct21), sl21⟩) (c21 : PySem.W.codeIn K cd21 "_law_f" = true) (k21 : PySem.W.keepIn K (.ref f21) = true)
    {od22 an22 : Option Addr} {sl22 : Array (Option Value)} {oc22 kV22 dc22 pm22 cd22 ct22 : Value} {f22 : Addr} (a22 : PySem.W.nsIn K mainGlobals "_law_plus" = some (some (.ref f22))) (l22 : K.lookup f22 = some ⟨oc22, od22, .func (PySem.W.fnOf "_law_plus" "_law_plus" (defArgs (topS 33)) (defBody (topS 33)) (defScope (topS 33)) .none kV22 dc22 pm22 an22 cd22 ct22), sl22⟩) (c22 : PySem.W.codeIn K cd22 "_law_plus" = true) (k22 : PySem.W.keepIn K (.ref f22) = true)
    {od23 an23 : Option Addr} {sl23 : Array (Option Value)} {oc23 kV23 dc23 pm23 cd23 ct23 : Value} {f23 : Addr} (a23 : PySem.W.nsIn K mainGlobals "_law_by" = some (some (.ref f23))) (l23 : K.lookup f23 = some ⟨oc23, od23, .func (PySem.W.fnOf "_law_by" "_law_by" (defArgs (topS 34)) (defBody (topS 34)) (defScope (topS 34)) .none kV23 dc23 pm23 an23 cd23 ct23), sl23⟩) (c23 : PySem.W.codeIn K cd23 "_law_by" = true) (k23 : PySem.W.keepIn K (.ref f23) = true)
    {od24 an24 : Option Addr} {sl24 : Array (Option Value)} {oc24 kV24 dc24 pm24 cd24 ct24 : Value} {f24 : Addr} (a24 : PySem.W.nsIn K mainGlobals "_law_below" = some (some (.ref f24))) (l24 : K.lookup f24 = some ⟨oc24, od24, .func (PySem.W.fnOf "_law_below" "_law_below" (defArgs (topS 35)) (defBody (topS 35)) (defScope (topS 35)) .none kV24 dc24 pm24 an24 cd24 ct24), sl24⟩) (c24 : PySem.W.codeIn K cd24 "_law_below" = true) (k24 : PySem.W.keepIn K (.ref f24) = true)
    {od25 an25 : Option Addr} {sl25 : Array (Option Value)} {oc25 kV25 dc25 pm25 cd25 ct25 : Value} {f25 : Addr} (a25 : PySem.W.nsIn K mainGlobals "_law_most" = some (some (.ref f25))) (l25 : K.lookup f25 = some ⟨oc25, od25, .func (PySem.W.fnOf "_law_most" "_law_most" (defArgs (topS 36)) (defBody (topS 36)) (defScope (topS 36)) .none kV25 dc25 pm25 an25 cd25 ct25), sl25⟩) (c25 : PySem.W.codeIn K cd25 "_law_most" = true) (k25 : PySem.W.keepIn K (.ref f25) = true)
    {od26 an26 : Option Addr} {sl26 : Array (Option Value)} {oc26 kV26 dc26 pm26 cd26 ct26 : Value} {f26 : Addr} (a26 : PySem.W.nsIn K mainGlobals "_law_least" = some (some (.ref f26))) (l26 : K.lookup f26 = some ⟨oc26, od26, .func (PySem.W.fnOf "_law_least" "_law_least" (defArgs (topS 37)) (defBody (topS 37)) (defScope (topS 37)) .none kV26 dc26 pm26 an26 cd26 ct26), sl26⟩) (c26 : PySem.W.codeIn K cd26 "_law_least" = true) (k26 : PySem.W.keepIn K (.ref f26) = true)
    {od27 an27 : Option Addr} {sl27 : Array (Option Value)} {oc27 kV27 dc27 pm27 cd27 ct27 : Value} {f27 : Addr} (a27 : PySem.W.nsIn K mainGlobals "_law_values" = some (some (.ref f27))) (l27 : K.lookup f27 = some ⟨oc27, od27, .func (PySem.W.fnOf "_law_values" "_law_values" (defArgs (topS 38)) (defBody (topS 38)) (defScope (topS 38)) .none kV27 dc27 pm27 an27 cd27 ct27), sl27⟩) (c27 : PySem.W.codeIn K cd27 "_law_values" = true) (k27 : PySem.W.keepIn K (.ref f27) = true)
    {od28 an28 : Option Addr} {sl28 : Array (Option Value)} {oc28 kV28 dc28 pm28 cd28 ct28 : Value} {f28 : Addr} (a28 : PySem.W.nsIn K mainGlobals "_law_mean" = some (some (.ref f28))) (l28 : K.lookup f28 = some ⟨oc28, od28, .func (PySem.W.fnOf "_law_mean" "_law_mean" (defArgs (topS 39)) (defBody (topS 39)) (defScope (topS 39)) .none kV28 dc28 pm28 an28 cd28 ct28), sl28⟩) (c28 : PySem.W.codeIn K cd28 "_law_mean" = true) (k28 : PySem.W.keepIn K (.ref f28) = true)
    {od29 an29 : Option Addr} {sl29 : Array (Option Value)} {oc29 kV29 dc29 pm29 cd29 ct29 : Value} {f29 : Addr} (a29 : PySem.W.nsIn K mainGlobals "_law_rising" = some (some (.ref f29))) (l29 : K.lookup f29 = some ⟨oc29, od29, .func (PySem.W.fnOf "_law_rising" "_law_rising" (defArgs (topS 40)) (defBody (topS 40)) (defScope (topS 40)) .none kV29 dc29 pm29 an29 cd29 ct29), sl29⟩) (c29 : PySem.W.codeIn K cd29 "_law_rising" = true) (k29 : PySem.W.keepIn K (.ref f29) = true)
    {od30 an30 : Option Addr} {sl30 : Array (Option Value)} {oc30 kV30 dc30 pm30 cd30 ct30 : Value} {f30 : Addr} (a30 : PySem.W.nsIn K mainGlobals "_law_right" = some (some (.ref f30))) (l30 : K.lookup f30 = some ⟨oc30, od30, .func (PySem.W.fnOf "_law_right" "_law_right" (defArgs (topS 41)) (defBody (topS 41)) (defScope (topS 41)) .none kV30 dc30 pm30 an30 cd30 ct30), sl30⟩) (c30 : PySem.W.codeIn K cd30 "_law_right" = true) (k30 : PySem.W.keepIn K (.ref f30) = true)
    {od31 an31 : Option Addr} {sl31 : Array (Option Value)} {oc31 kV31 dc31 pm31 cd31 ct31 : Value} {f31 : Addr} (a31 : PySem.W.nsIn K mainGlobals "law" = some (some (.ref f31))) (l31 : K.lookup f31 = some ⟨oc31, od31, .func (PySem.W.fnOf "law" "law" (defArgs (topS 42)) (defBody (topS 42)) (defScope (topS 42)) .none kV31 dc31 pm31 an31 cd31 ct31), sl31⟩) (c31 : PySem.W.codeIn K cd31 "law" = true) (k31 : PySem.W.keepIn K (.ref f31) = true)
    (zb_abs : PySem.W.nsIn K mainGlobals "abs" = some none)
    (zb_all : PySem.W.nsIn K mainGlobals "all" = some none)
    (zb_bool : PySem.W.nsIn K mainGlobals "bool" = some none)
    (zb_dict : PySem.W.nsIn K mainGlobals "dict" = some none)
    (zb_enumerate : PySem.W.nsIn K mainGlobals "enumerate" = some none)
    (zb_int : PySem.W.nsIn K mainGlobals "int" = some none)
    (zb_isinstance : PySem.W.nsIn K mainGlobals "isinstance" = some none)
    (zb_len : PySem.W.nsIn K mainGlobals "len" = some none)
    (zb_list : PySem.W.nsIn K mainGlobals "list" = some none)
    (zb_max : PySem.W.nsIn K mainGlobals "max" = some none)
    (zb_min : PySem.W.nsIn K mainGlobals "min" = some none)
    (zb_range : PySem.W.nsIn K mainGlobals "range" = some none)
    (zb_sorted : PySem.W.nsIn K mainGlobals "sorted" = some none)
    (zb_str : PySem.W.nsIn K mainGlobals "str" = some none)
    (zb_sum : PySem.W.nsIn K mainGlobals "sum" = some none)
    (zb_tuple : PySem.W.nsIn K mainGlobals "tuple" = some none)
    {t_FARTHEST : Tok} (zc_FARTHEST : PySem.W.nsIn K mainGlobals "FARTHEST" = some (some (.int (9999) t_FARTHEST)))
    {t_MOST_VALUES : Tok} (zc_MOST_VALUES : PySem.W.nsIn K mainGlobals "MOST_VALUES" = some (some (.int (9) t_MOST_VALUES)))
    {t_MOST_WEIGHT : Tok} (zc_MOST_WEIGHT : PySem.W.nsIn K mainGlobals "MOST_WEIGHT" = some (some (.int (999) t_MOST_WEIGHT)))
    (zg_gcd : PySem.W.nsIn K mainGlobals "gcd" = some (some (.builtin "math.gcd"))) :
    ∃ fd : FuncData, (∀ (s : Shared) (v : Value), BindsTo s fd ⟨[v], []⟩ [("script", v)]) ∧ ∀ base : Heap, K.In base → base.Ns mainGlobals mg → FnOk l.prog w K mg base (L2.CX l.prog w) 13 fa fd ["script"] (spLaw K) := by
  have e := hfa.symm.trans (PySem.W.mg_of X G a31)
  cases e
  have F0 := fun_mk (st := topS 2) l0 c0 k0
  have B0 := F0.binds (ps := ["value"]) fun _ _ _ _ _ _ us hl => match us, hl with | [_], _ => rfl
  have F1 := fun_mk (st := topS 3) l1 c1 k1
  have B1 := F1.binds (ps := ["value", "low", "high"]) fun _ _ _ _ _ _ us hl => match us, hl with | [_, _, _], _ => rfl
  have F2 := fun_mk (st := topS 4) l2 c2 k2
  have B2 := F2.binds (ps := ["value", "many"]) fun _ _ _ _ _ _ us hl => match us, hl with | [_, _], _ => rfl
  have F3 := fun_mk (st := topS 5) l3 c3 k3
  have B3 := F3.binds (ps := ["value", "fewest", "most", "is_right"]) fun _ _ _ _ _ _ us hl => match us, hl with | [_, _, _, _], _ => rfl
  have F4 := fun_mk (st := topS 6) l4 c4 k4
  have B4 := F4.binds (ps := ["number", "under"]) fun _ _ _ _ _ _ us hl => match us, hl with | [_, _], _ => rfl
  have F5 := fun_mk (st := topS 7) l5 c5 k5
  have B5 := F5.binds (ps := ["one", "two"]) fun _ _ _ _ _ _ us hl => match us, hl with | [_, _], _ => rfl
  have F6 := fun_mk (st := topS 8) l6 c6 k6
  have B6 := F6.binds (ps := ["one", "two"]) fun _ _ _ _ _ _ us hl => match us, hl with | [_, _], _ => rfl
  have F7 := fun_mk (st := topS 9) l7 c7 k7
  have B7 := F7.binds (ps := ["one", "two"]) fun _ _ _ _ _ _ us hl => match us, hl with | [_, _], _ => rfl
  have F8 := fun_mk (st := topS 10) l8 c8 k8
  have B8 := F8.binds (ps := ["some"]) fun _ _ _ _ _ _ us hl => match us, hl with | [_], _ => rfl
  have F9 := fun_mk (st := topS 11) l9 c9 k9
  have B9 := F9.binds (ps := ["some"]) fun _ _ _ _ _ _ us hl => match us, hl with | [_], _ => rfl
  have F10 := fun_mk (st := topS 19) l10 c10 k10
  have B10 := F10.binds (ps := ["value"]) fun _ _ _ _ _ _ us hl => match us, hl with | [_], _ => rfl
  have F11 := fun_mk (st := topS 20) l11 c11 k11
  have B11 := F11.binds (ps := ["value"]) fun _ _ _ _ _ _ us hl => match us, hl with | [_], _ => rfl
  have F12 := fun_mk (st := topS 21) l12 c12 k12
  have B12 := F12.binds (ps := ["values", "one", "two"]) fun _ _ _ _ _ _ us hl => match us, hl with | [_, _, _], _ => rfl
  have F13 := fun_mk (st := topS 22) l13 c13 k13
  have B13 := F13.binds (ps := ["values", "one", "at"]) fun _ _ _ _ _ _ us hl => match us, hl with | [_, _, _], _ => rfl
  have F14 := fun_mk (st := topS 23) l14 c14 k14
  have B14 := F14.binds (ps := ["values"]) fun _ _ _ _ _ _ us hl => match us, hl with | [_], _ => rfl
  have F15 := fun_mk (st := topS 25) l15 c15 k15
  have B15 := F15.binds (ps := ["value"]) fun _ _ _ _ _ _ us hl => match us, hl with | [_], _ => rfl
  have F16 := fun_mk (st := topS 26) l16 c16 k16
  have B16 := F16.binds (ps := ["values"]) fun _ _ _ _ _ _ us hl => match us, hl with | [_], _ => rfl
  have F17 := fun_mk (st := topS 28) l17 c17 k17
  have B17 := F17.binds (ps := ["script", "k"]) fun _ _ _ _ _ _ us hl => match us, hl with | [_, _], _ => rfl
  have F18 := fun_mk (st := topS 29) l18 c18 k18
  have B18 := F18.binds (ps := ["pool", "many"]) fun _ _ _ _ _ _ us hl => match us, hl with | [_, _], _ => rfl
  have F19 := fun_mk (st := topS 30) l19 c19 k19
  have B19 := F19.binds (ps := ["one", "two"]) fun _ _ _ _ _ _ us hl => match us, hl with | [_, _], _ => rfl
  have F20 := fun_mk (st := topS 31) l20 c20 k20
  have B20 := F20.binds (ps := ["one", "two"]) fun _ _ _ _ _ _ us hl => match us, hl with | [_, _], _ => rfl
  have F21 := fun_mk (st := topS 32) l21 c21 k21
  have B21 := F21.binds (ps := ["top", "low"]) fun _ _ _ _ _ _ us hl => match us, hl with | [_, _], _ => rfl
  have F22 := fun_mk (st := topS 33) l22 c22 k22
  have B22 := F22.binds (ps := ["one", "two"]) fun _ _ _ _ _ _ us hl => match us, hl with | [_, _], _ => rfl
  have F23 := fun_mk (st := topS 34) l23 c23 k23
  have B23 := F23.binds (ps := ["one", "two"]) fun _ _ _ _ _ _ us hl => match us, hl with | [_, _], _ => rfl
  have F24 := fun_mk (st := topS 35) l24 c24 k24
  have B24 := F24.binds (ps := ["one", "two"]) fun _ _ _ _ _ _ us hl => match us, hl with | [_, _], _ => rfl
  have F25 := fun_mk (st := topS 36) l25 c25 k25
  have B25 := F25.binds (ps := ["some"]) fun _ _ _ _ _ _ us hl => match us, hl with | [_], _ => rfl
  have F26 := fun_mk (st := topS 37) l26 c26 k26
  have B26 := F26.binds (ps := ["some"]) fun _ _ _ _ _ _ us hl => match us, hl with | [_], _ => rfl
  have F27 := fun_mk (st := topS 38) l27 c27 k27
  have B27 := F27.binds (ps := ["pool", "high"]) fun _ _ _ _ _ _ us hl => match us, hl with | [_, _], _ => rfl
  have F28 := fun_mk (st := topS 39) l28 c28 k28
  have B28 := F28.binds (ps := ["values", "low", "high"]) fun _ _ _ _ _ _ us hl => match us, hl with | [_, _, _], _ => rfl
  have F29 := fun_mk (st := topS 40) l29 c29 k29
  have B29 := F29.binds (ps := ["values"]) fun _ _ _ _ _ _ us hl => match us, hl with | [_], _ => rfl
  have F30 := fun_mk (st := topS 41) l30 c30 k30
  have B30 := F30.binds (ps := ["pool", "values"]) fun _ _ _ _ _ _ us hl => match us, hl with | [_, _], _ => rfl
  have F31 := fun_mk (st := topS 42) l31 c31 k31
  have B31 := F31.binds (ps := ["script"]) fun _ _ _ _ _ _ us hl => match us, hl with | [_], _ => rfl
  have T : Txt K mg f10 := ⟨⟨_, _, PySem.W.mg_of X G a0, F0, B0⟩, ⟨_, _, PySem.W.mg_of X G a1, F1, B1⟩, ⟨_, _, PySem.W.mg_of X G a2, F2, B2⟩, ⟨_, _, PySem.W.mg_of X G a3, F3, B3⟩, ⟨_, _, PySem.W.mg_of X G a4, F4, B4⟩, ⟨_, _, PySem.W.mg_of X G a5, F5, B5⟩, ⟨_, _, PySem.W.mg_of X G a6, F6, B6⟩, ⟨_, _, PySem.W.mg_of X G a7, F7, B7⟩, ⟨_, _, PySem.W.mg_of X G a8, F8, B8⟩, ⟨_, _, PySem.W.mg_of X G a9, F9, B9⟩, ⟨_, _, PySem.W.mg_of X G a10, F10, B10⟩, ⟨_, _, PySem.W.mg_of X G a11, F11, B11⟩, ⟨_, _, PySem.W.mg_of X G a12, F12, B12⟩, ⟨_, _, PySem.W.mg_of X G a13, F13, B13⟩, ⟨_, _, PySem.W.mg_of X G a14, F14, B14⟩, ⟨_, _, PySem.W.mg_of X G a15, F15, B15⟩, ⟨_, _, PySem.W.mg_of X G a16, F16, B16⟩, ⟨_, _, PySem.W.mg_of X G a17, F17, B17⟩, ⟨_, _, PySem.W.mg_of X G a18, F18, B18⟩, ⟨_, _, PySem.W.mg_of X G a19, F19, B19⟩, ⟨_, _, PySem.W.mg_of X G a20, F20, B20⟩, ⟨_, _, PySem.W.mg_of X G a21, F21, B21⟩, ⟨_, _, PySem.W.mg_of X G a22, F22, B22⟩, ⟨_, _, PySem.W.mg_of X G a23, F23, B23⟩, ⟨_, _, PySem.W.mg_of X G a24, F24, B24⟩, ⟨_, _, PySem.W.mg_of X G a25, F25, B25⟩, ⟨_, _, PySem.W.mg_of X G a26, F26, B26⟩, ⟨_, _, PySem.W.mg_of X G a27, F27, B27⟩, ⟨_, _, PySem.W.mg_of X G a28, F28, B28⟩, ⟨_, _, PySem.W.mg_of X G a29, F29, B29⟩, ⟨_, _, PySem.W.mg_of X G a30, F30, B30⟩, ⟨_, _, PySem.W.mg_of X G a31, F31, B31⟩, PySem.W.mg_none_of X G zb_abs, PySem.W.mg_none_of X G zb_all, PySem.W.mg_none_of X G zb_bool, PySem.W.mg_none_of X G zb_dict, PySem.W.mg_none_of X G zb_enumerate, PySem.W.mg_none_of X G zb_int, PySem.W.mg_none_of X G zb_isinstance, PySem.W.mg_none_of X G zb_len, PySem.W.mg_none_of X G zb_list, PySem.W.mg_none_of X G zb_max, PySem.W.mg_none_of X G zb_min, PySem.W.mg_none_of X G zb_range, PySem.W.mg_none_of X G zb_sorted, PySem.W.mg_none_of X G zb_str, PySem.W.mg_none_of X G zb_sum, PySem.W.mg_none_of X G zb_tuple, ⟨_, PySem.W.mg_of X G zc_FARTHEST⟩, ⟨_, PySem.W.mg_of X G zc_MOST_VALUES⟩, ⟨_, PySem.W.mg_of X G zc_MOST_WEIGHT⟩, PySem.W.mg_of X G zg_gcd, PySem.W.mg_of X G a10, a10⟩
  refine ⟨PySem.W.fnOf "law" "law" (defArgs (topS 42)) (defBody (topS 42)) (defScope (topS 42)) .none kV31 dc31 pm31 an31 cd31 ct31, fun s v => .of_eq rfl, fun base _ _ => ?_⟩
  obtain ⟨f, fd, h1, _, h2, h3, _⟩ := (ok_every (P := l.prog) (w := w) (base := base) T).ex
  have h4 := (PySem.W.mg_of X G a31).symm.trans h1
  cases h4
  have h5 := fun_same F31 h2
  cases h5
  exact h3.imp (law_imp pl)
end FL
/-! TL: plain functions read as terms of a small monad of what has to hold (no slots, draws as "for any"), with the proof that the plain function does what the term says. -/
namespace FL
open PySem PySem.Spec L2
abbrev XP := Str → Option (Str × D) → Prop
def TM (α : Type) := (α → Prop) → XP → Prop
section
variable {α β γ : Type}
def tp (a : α) : TM α := fun P _ => P a
def tb (m : TM α) (f : α → TM β) : TM β := fun P E => m (fun a => f a P E) E
def tO (o : Option α) : TM α := fun P _ => ∃ a, o = some a ∧ P a
def tA (p : Prop) (m : TM α) : TM α := fun P E => p ∧ m P E
def tBad : TM α := fun _ _ => False
def tNX (m : TM α) : TM α := fun P _ => m P fun _ _ => False
def tX (c : Str) (p : Option (Str × D)) : TM α := fun _ E => E c p
theorem tb_tp (a : α) (f : α → TM β) : tb (tp a) f = f a := rfl
theorem tb_tb (m : TM α) (f : α → TM β) (g : β → TM γ) : tb (tb m f) g = tb m fun a => tb (f a) g := rfl
theorem tO_some (a : α) : tO (some a) = tp a := by
  funext P E
  exact propext ⟨fun ⟨_, e, h⟩ => by cases e; exact h, fun h => ⟨a, rfl, h⟩⟩
theorem tA_true (m : TM α) {p : Prop} (h : p) : tA p m = m := by
  funext P E
  exact propext ⟨fun h => h.2, fun g => ⟨h, g⟩⟩
theorem tb_tA {p : Prop} (m : TM α) (f : α → TM β) : tb (tA p m) f = tA p (tb m f) := rfl
theorem tNX_tp (a : α) : tNX (tp a) = tp a := rfl
/-! ### expressions -/
def t2 (op : D → D → Option D) (a b : TM D) : TM D := tb a fun d => tb b fun e => tO (op d e)
def t1 (op : D → Option D) (a : TM D) : TM D := tb a fun d => tO (op d)
def tAnd (a b : TM D) : TM D := tb a fun d => tb (tO (truB d)) fun k => if k then b else tp d
def tOr (a b : TM D) : TM D := tb a fun d => tb (tO (truB d)) fun k => if k then tp d else b
def tNot (a : TM D) : TM D := tb a fun d => tb (tO (truB d)) fun k => tp (.bl (!k))
def tIf (c : TM Bool) (a b : TM α) : TM α := tb c fun k => if k then a else b
def unBl : D → Option Bool
  | .bl b => some b
  | _ => none
def unInt : D → Option Int
  | .int b => some b
  | _ => none
def tChain (o o' : D → D → Option D) (a b c : TM D) : TM D := tb a fun d => tb b fun e => tb (tO (o d e)) fun z => tb (tO (unBl z)) fun k => if k then tb c fun g => tO (o' e g) else tp (.bl false)
def tCons (a : TM D) (r : TM (List D)) : TM (List D) := tb a fun d => tb r fun ds => tp (d :: ds)
def tTup (m : TM (List D)) : TM D := tb m fun ds => tA (ds.length ≤ most) (tp (.tup ds))
def tLst (m : TM (List D)) : TM (List D) := tb m fun ds => tA (ds.length ≤ most) (tp ds)
def tFz (m : TM (List D)) : TM D := tb m fun ds => tp (.lst ds)
def tBf (o : List D → Option α) (m : TM (List D)) : TM α := tb m fun ds => tO (o ds)
def tInt (m : TM D) : TM (Option Int) := tb m fun d => tb (tO (unInt d)) fun i => tp (some i)
def tCut (a : TM D) (lo hi : TM (Option Int)) : TM D := tb a fun d => tb lo fun l => tb hi fun h => tO (cutD d l h)
def tRow (m : TM D) : TM (List D) := tb m fun d => tO (rowD d)
def tMT (m : TM D) : TM Bool := tb m fun d => tO (unBl d)
def tTru (m : TM D) : TM Bool := tb m fun d => tO (truB d)
def ttAnd (a b : TM Bool) : TM Bool := tb a fun k => if k then b else tp false
def ttOr (a b : TM Bool) : TM Bool := tb a fun k => if k then tp true else b
def ttNot (a : TM Bool) : TM Bool := tb a fun k => tp (!k)
def tIsT (ns : List String) (m : TM D) : TM D := tb m fun d => tO (isTB ns d)
def tUnL (m : TM D) : TM (List D) := tb m fun d => tO (unL d)
def tLend (ok : α → Bool) (m : TM α) : TM α := tb m fun a => tA (ok a = true) (tp a)
/-! comprehensions, loops -/
def compL {σ : Type} (tg : D → TM σ) (tt : σ → TM Bool) (te : σ → TM D) : List D → TM (List D)
  | [] => tp []
  | d :: ds => tb (tg d) fun u => tb (tt u) fun k => if k then tb (te u) fun y => tb (compL tg tt te ds) fun l => tp (y :: l) else compL tg tt te ds
def compT {σ : Type} (it : TM (List D)) (tg : D → TM σ) (tt : σ → TM Bool) (te : σ → TM D) : TM (List D) := tb it fun ds => tA (ds.length ≤ most) (tNX (compL tg tt te ds))
def forL {σ : Type} (body : D → σ → TM σ) : List D → σ → TM σ
  | [], s => tp s
  | d :: ds, s => tb (body d s) fun s' => forL body ds s'
def forT {σ : Type} (it : TM (List D)) (s : σ) (body : D → σ → TM σ) : TM σ := tb it fun ds => tA (ds.length ≤ most) (forL body ds s)
inductive Lx (σ : Type) where | go (s : σ) | br (s : σ) | rt (d : D)
def forXL {σ : Type} (body : D → σ → TM (Lx σ)) : List D → σ → TM (Lx σ)
  | [], s => tp (.go s)
  | d :: ds, s => tb (body d s) fun o => match o with
    | .go s' => forXL body ds s'
    | .br s' => tp (.go s')
    | .rt v => tp (.rt v)
def forX {σ : Type} (it : TM (List D)) (s : σ) (body : D → σ → TM (Lx σ)) : TM (Lx σ) := tb it fun ds => tA (ds.length ≤ most) (forXL body ds s)
def tFin {σ τ : Type} (o : Lx σ) (fr : D → TM τ) (fs : σ → TM τ) : TM τ := match o with
  | .go s => fs s
  | .br s => fs s
  | .rt d => fr d
def whileT {σ : Type} (tc : σ → TM Bool) (body : σ → TM σ) : Nat → σ → TM σ
  | 0, _ => tBad
  | n + 1, s => tb (tc s) fun k => if k then tb (body s) fun s' => whileT tc body n s' else tp s
def whileX {σ : Type} (tc : σ → TM Bool) (body : σ → TM (Lx σ)) : Nat → σ → TM (Lx σ)
  | 0, _ => tBad
  | n + 1, s => tb (tc s) fun k => if k then tb (body s) fun o => (match o with
    | .go s' => whileX tc body n s'
    | .br s' => tp (.go s')
    | .rt v => tp (.rt v)) else tp (.go s)
def tApp (xs : List D) (m : TM D) : TM (List D) := tb m fun d => tA (xs.length < most) (tp (xs ++ [d]))
def tExt (xs : List D) (m : TM D) : TM (List D) := tb m fun d => tO (extC d xs)
def tSub (xs : List D) (ix : TM D) (d : D) : TM (List D) := tb ix fun i => tO (setIx d i xs)
def unTup (n : Nat) : D → Option (List D)
  | .tup ds => if ds.length = n then some ds else none
  | _ => none
end
def u0 (t : TM D) : List D → TM D := fun ds => match ds with | [] => t | _ => tBad
def u1 (t : D → TM D) : List D → TM D := fun ds => match ds with | [a] => t a | _ => tBad
def u2 (t : D → D → TM D) : List D → TM D := fun ds => match ds with | [a, b] => t a b | _ => tBad
def u3 (t : D → D → D → TM D) : List D → TM D := fun ds => match ds with | [a, b, c] => t a b c | _ => tBad
def u4 (t : D → D → D → D → TM D) : List D → TM D := fun ds => match ds with | [a, b, c, d] => t a b c d | _ => tBad
def u5 (t : D → D → D → D → D → TM D) : List D → TM D := fun ds => match ds with | [a, b, c, d, e] => t a b c d e | _ => tBad
def u6 (t : D → D → D → D → D → D → TM D) : List D → TM D := fun ds => match ds with | [a, b, c, d, e, g] => t a b c d e g | _ => tBad
def u7 (t : D → D → D → D → D → D → D → TM D) : List D → TM D := fun ds => match ds with | [a, b, c, d, e, g, h] => t a b c d e g h | _ => tBad
/-! ### what is shown of a plain function -/
def Wx {α : Type} (m : M α) (r : List Ent) (Q : α → List Ent → Prop) (E : Str → Option (Str × D) → List Ent → Prop) : Prop := match m r with
  | .ok a r' => Q a r'
  | .exc c p r' => E c p r'
  | .bad => False
def WxF (F : List Ent → R D) (es : List Ent) (Q : D → List Ent → Prop) (E : Str → Option (Str × D) → List Ent → Prop) : Prop := match F es with
  | .ok a r' => Q a r'
  | .exc c p r' => E c p r'
  | .bad => False
section
variable {α β : Type} {r : List Ent} {Q Q' : α → List Ent → Prop} {E E' : Str → Option (Str × D) → List Ent → Prop}
theorem Wx.imp {m : M α} (h : Wx m r Q E) (q : ∀ a r', Q a r' → Q' a r') (e : ∀ c p r', E c p r' → E' c p r') : Wx m r Q' E' := by
  unfold Wx at h ⊢
  cases k : m r with
  | ok a r' => rw [k] at h; exact q _ _ h
  | exc c p r' => rw [k] at h; exact e _ _ _ h
  | bad => rw [k] at h; exact h
theorem wx_B {m : M β} {f : β → M α} (h : Wx m r (fun b r' => Wx (f b) r' Q E) E) : Wx (mB m f) r Q E := by
  unfold Wx mB at *
  cases e : m r with
  | ok a r' => rw [e] at h; exact h
  | exc c p r' => rw [e] at h; exact h
  | bad => rw [e] at h; exact h.elim
theorem wx_of {m : M α} {a : α} {r' : List Ent} (e : m r = .ok a r') (q : Q a r') : Wx m r Q E := by unfold Wx; rw [e]; exact q
end
def Wel (k : Nat) (ds : List D) : Prop := ∃ a s : Int, ds = [.int a, .int s] ∧ 0 ≤ a ∧ 0 ≤ s ∧ s < 18446744073709551616 ∧ (0 : Int) ≤ k
theorem Wel.up {j k : Nat} {ds : List D} : Wel j ds → j ≤ k → Wel k ds := fun ⟨a, s, h1, h2⟩ h => ⟨a, s, h1, by omega⟩
def w0 : List D := [.int 0, .int 0]
theorem wel0 : Wel 0 w0 := ⟨0, 0, rfl, by omega, by omega, by omega, by omega⟩
def big : Nat := 2 ^ 2000
structure J where
  v : List (Option D)
  a : List Ent
def oe : Option D → Ent
  | none => .no
  | some d => .val d
abbrev Pat := J → List D → List Ent
def Wk (f g : Pat) : Prop := ∃ h : J → List D → J, ∀ js ds, f js ds = g (h js ds) ds
def wk (h : J → List D → J) {f g : Pat} (e : ∀ js ds, f js ds = g (h js ds) ds) : Wk f g := ⟨h, e⟩
def anyP : Pat := fun js _ => js.a
theorem wk_any (f : Pat) : Wk f anyP := ⟨fun js ds => ⟨[], f js ds⟩, fun _ _ => rfl⟩
theorem wk_refl (f : Pat) : Wk f f := ⟨fun js _ => js, fun _ _ => rfl⟩
def Got (f : Pat) (k : Nat) (r : List Ent) : Prop := ∃ js ds, Wel k ds ∧ r = f js ds
theorem Got.up {f : Pat} {j k : Nat} {r : List Ent} : Got f j r → j ≤ k → Got f k r := fun ⟨js, ds, w, e⟩ h => ⟨js, ds, w.up h, e⟩
theorem Got.wk {f g : Pat} {k : Nat} {r : List Ent} : Got f k r → Wk f g → Got g k r := fun ⟨js, ds, w, e⟩ ⟨h, q⟩ => ⟨h js ds, ds, w, e.trans (q js ds)⟩
def SimM {α : Type} (c : Nat) (f g : Pat) (m : M α) (t : TM α) : Prop := ∀ (k : Nat) (r : List Ent) (P : α → Prop) (E : XP), Got f k r → k + c ≤ big → t P E →
  Wx m r (fun a r => Got f (k + c) r ∧ P a) fun x p r => Got g (k + c) r ∧ E x p
def SimB {τ : Type} (c : Nat) (f g : Pat) (m : M Fl) (t : TM τ) (fl : τ → Fl → Prop) (pat : τ → Pat) : Prop := ∀ (k : Nat) (r : List Ent) (P : τ → Prop) (E : XP), Got f k r → k + c ≤ big → t P E →
  Wx m r (fun x r => ∃ a, fl a x ∧ Got (pat a) (k + c) r ∧ P a) fun x p r => Got g (k + c) r ∧ E x p
/-- targets -/
def SimG {σ : Type} (c : Nat) (f g : Pat) (m : M Unit) (t : TM σ) (f2 : σ → Pat) : Prop := ∀ (k : Nat) (r : List Ent) (P : σ → Prop) (E : XP), Got f k r → k + c ≤ big → t P E →
  Wx m r (fun _ r => ∃ s, Got (f2 s) (k + c) r ∧ P s) fun x p r => Got g (k + c) r ∧ E x p
def SimF0 (F : List Ent → R D) (t : List D → TM D) : Prop := ∀ (ds : List D) (P : D → Prop) (E : XP), t ds P E → WxF F (valsOf ds) (fun d _ => P d) fun x p _ => E x p
def WOut (k : Nat) (o : List Ent) : Prop := ∃ w, Wel k w ∧ o = [.cel .io w]
def SimFW (c i : Nat) (F : List Ent → R D) (t : List D → TM D) : Prop := ∀ (k : Nat) (w pre post : List D) (P : D → Prop) (E : XP), pre.length = i → Wel k w → k + c ≤ big → t (pre ++ post) P E →
  WxF F (ioArgs pre w post) (fun d o => WOut (k + c) o ∧ P d) fun x p o => WOut (k + c) o ∧ E x p
section
variable {α β : Type} {f g : Pat} {c c1 c2 c3 : Nat}
theorem SimM.up {m : M α} {t : TM α} (h : SimM c1 f g m t) (e : c1 ≤ c) : SimM c f g m t := fun k r P E q l p =>
  (h k r P E q (by omega) p).imp (fun _ _ ⟨a, b⟩ => ⟨a.up (by omega), b⟩) fun _ _ _ ⟨a, b⟩ => ⟨a.up (by omega), b⟩
theorem sm_bind {m : M α} {t : TM α} {n : α → M β} {u : α → TM β} (h1 : SimM c1 f g m t) (h2 : ∀ a, SimM c2 f g (n a) (u a)) (hc : c1 + c2 ≤ c) : SimM c f g (mB m n) (tb t u) := fun k r P E q l p =>
  wx_B ((h1 k r _ E q (by omega) p).imp (fun a r1 ⟨q1, p1⟩ => (h2 a (k + c1) r1 P E q1 (by omega) p1).imp (fun _ _ ⟨a, b⟩ => ⟨a.up (by omega), b⟩) fun _ _ _ ⟨a, b⟩ => ⟨a.up (by omega), b⟩) fun _ _ _ ⟨a, b⟩ => ⟨a.up (by omega), b⟩)
theorem sm_P {a : α} : SimM c f g (mP a) (tp a) := fun k r P E q l p => ⟨q.up (by omega), p⟩
theorem sm_O {o : Option α} : SimM c f g (mO o) (tO o) := fun k r P E q l ⟨a, e, p⟩ => by subst e; exact ⟨q.up (by omega), p⟩
theorem sm_bad {m : M α} : SimM c f g m tBad := fun _ _ _ _ _ _ p => p.elim
theorem sm_ite {k : Bool} {a b : M α} {ta tb' : TM α} (h1 : SimM c f g a ta) (h2 : SimM c f g b tb') : SimM c f g (if k then a else b) (if k then ta else tb') := by
  cases k with
  | true => exact h1
  | false => exact h2
theorem sm_var {i : Nat} {d : D} (h : ∀ js ds, (f js ds)[i]? = some (.val d)) : SimM c f g (xVar i) (tp d) := fun k r P E ⟨js, ds, w, e⟩ l p => by
  subst e
  unfold Wx xVar
  rw [h]
  exact ⟨⟨js, ds, w.up (by omega), rfl⟩, p⟩
theorem sm_C {d : D} : SimM c f g (xC d) (tp d) := sm_P
variable {a b e : M D} {ta te : TM D} {tb' : TM D} {m : M (List D)} {tm : TM (List D)}
theorem sm_2 {op : D → D → Option D} (h1 : SimM c1 f g a ta) (h2 : SimM c2 f g b tb') (hc : c1 + c2 ≤ c) : SimM c f g (x2 op a b) (t2 op ta tb') :=
  sm_bind h1 (fun _ => sm_bind (c2 := 0) h2 (fun _ => sm_O) (Nat.le_refl _)) hc
theorem sm_1 {op : D → Option D} (h1 : SimM c f g a ta) : SimM c f g (x1 op a) (t1 op ta) := sm_bind (c2 := 0) h1 (fun _ => sm_O) (Nat.le_refl _)
theorem sm_and (h1 : SimM c1 f g a ta) (h2 : SimM c2 f g b tb') (hc : c1 + c2 ≤ c) : SimM c f g (xAnd a b) (tAnd ta tb') :=
  sm_bind h1 (fun _ => sm_bind (c1 := 0) sm_O (fun _ => sm_ite h2 sm_P) (by omega)) hc
theorem sm_or (h1 : SimM c1 f g a ta) (h2 : SimM c2 f g b tb') (hc : c1 + c2 ≤ c) : SimM c f g (xOr a b) (tOr ta tb') :=
  sm_bind h1 (fun _ => sm_bind (c1 := 0) sm_O (fun _ => sm_ite sm_P h2) (by omega)) hc
theorem sm_not (h1 : SimM c f g a ta) : SimM c f g (xNot a) (tNot ta) := sm_bind (c2 := 0) h1 (fun _ => sm_bind (c1 := 0) (c2 := 0) sm_O (fun _ => sm_P) (by omega)) (by omega)
theorem sm_if {k : M Bool} {tk : TM Bool} (h0 : SimM c1 f g k tk) (h1 : SimM c2 f g a ta) (h2 : SimM c3 f g b tb') (hc : c1 + (c2 + c3) ≤ c) : SimM c f g (xIf k a b) (tIf tk ta tb') :=
  sm_bind h0 (fun _ => sm_ite (h1.up (Nat.le_add_right _ _)) (h2.up (Nat.le_add_left _ _))) hc
theorem sm_chain {o o' : D → D → Option D} (h1 : SimM c1 f g a ta) (h2 : SimM c2 f g b tb') (h3 : SimM c3 f g e te) (hc : c1 + c2 + c3 ≤ c) : SimM c f g (xChain o o' a b e) (tChain o o' ta tb' te) :=
  sm_bind h1 (fun d => sm_bind (c := c2 + c3) h2 (fun d2 => sm_bind (c1 := 0) sm_O (fun z => by
    cases z with
    | bl k =>
      show SimM c3 f g _ (tb (tO (some k)) _)
      rw [tO_some]
      exact sm_ite (sm_bind (c2 := 0) h3 (fun _ => sm_O) (Nat.le_refl _)) sm_P
    | _ => exact fun _ _ _ _ _ _ p => by obtain ⟨_, e, _⟩ := p; cases e) (by omega)) (Nat.le_refl _)) (by omega)
theorem sm_nil : SimM c f g (mP ([] : List D)) (tp []) := sm_P
theorem sm_cons (h1 : SimM c1 f g a ta) (h2 : SimM c2 f g m tm) (hc : c1 + c2 ≤ c) : SimM c f g (dCons a m) (tCons ta tm) :=
  sm_bind h1 (fun _ => sm_bind (c2 := 0) h2 (fun _ => sm_P) (Nat.le_refl _)) hc
theorem sm_guard {p : Prop} [Decidable p] {x : α} : SimM c f g (if decide p = true then mP x else fun _ => .bad) (tA p (tp x)) := fun k r P E q l ⟨h, p⟩ => by
  rw [if_pos (decide_eq_true h)]
  exact sm_P k r P E q l p
theorem sm_tup (h : SimM c f g m tm) : SimM c f g (xTup m) (tTup tm) := sm_bind (c2 := 0) h (fun _ => sm_guard) (Nat.le_refl _)
theorem sm_lst (h : SimM c f g m tm) : SimM c f g (lLst m) (tLst tm) := sm_bind (c2 := 0) h (fun _ => sm_guard) (Nat.le_refl _)
theorem sm_fz (h : SimM c f g m tm) : SimM c f g (xFz m) (tFz tm) := sm_bind (c2 := 0) h (fun _ => sm_P) (Nat.le_refl _)
theorem sm_B {o : List D → Option D} (h : SimM c f g m tm) : SimM c f g (xB o m) (tBf o tm) := sm_bind (c2 := 0) h (fun _ => sm_O) (Nat.le_refl _)
theorem sm_lB {o : List D → Option (List D)} (h : SimM c f g m tm) : SimM c f g (lB o m) (tBf o tm) := sm_bind (c2 := 0) h (fun _ => sm_O) (Nat.le_refl _)
theorem sm_iOf {o : List D → Option (List D)} (h : SimM c f g m tm) : SimM c f g (iOf o m) (tBf o tm) := sm_bind (c2 := 0) h (fun _ => sm_O) (Nat.le_refl _)
theorem sm_row (h : SimM c f g a ta) : SimM c f g (iRow a) (tRow ta) := sm_bind (c2 := 0) h (fun _ => sm_O) (Nat.le_refl _)
theorem sm_oint (h : SimM c f g a ta) : SimM c f g (oInt a) (tInt ta) := sm_bind (c2 := 0) h (fun d => by
  cases d with
  | int i => exact (show SimM 0 f g (mP (some i)) (tb (tO (some i)) _) by rw [tO_some]; exact sm_P)
  | _ => exact fun _ _ _ _ _ _ p => by obtain ⟨_, e, _⟩ := p; cases e) (Nat.le_refl _)
theorem sm_none : SimM c f g (mP (none : Option Int)) (tp none) := sm_P
theorem sm_cut {lo hi : M (Option Int)} {tl th : TM (Option Int)} (h1 : SimM c1 f g a ta) (h2 : SimM c2 f g lo tl) (h3 : SimM c3 f g hi th) (hc : c1 + c2 + c3 ≤ c) : SimM c f g (xCut a lo hi) (tCut ta tl th) :=
  sm_bind h1 (fun _ => sm_bind (c := c2 + c3) h2 (fun _ => sm_bind (c2 := 0) h3 (fun _ => sm_O) (Nat.le_refl _)) (Nat.le_refl _)) (by omega)
theorem sm_isT {ns : List String} (h : SimM c f g a ta) : SimM c f g (xIsT ns a) (tIsT ns ta) := sm_bind (c2 := 0) h (fun _ => sm_O) (Nat.le_refl _)
theorem sm_mT (h : SimM c f g a ta) : SimM c f g (mT a) (tMT ta) := sm_bind (c2 := 0) h (fun d => by
  cases d with
  | bl i => exact (show SimM 0 f g (mP i) (tO (some i)) by rw [tO_some]; exact sm_P)
  | _ => exact fun _ _ _ _ _ _ p => by obtain ⟨_, e, _⟩ := p; cases e) (Nat.le_refl _)
theorem sm_tru (h : SimM c f g a ta) : SimM c f g (mTru a) (tTru ta) := sm_bind (c2 := 0) h (fun _ => sm_O) (Nat.le_refl _)
theorem sm_tAnd {p q : M Bool} {tp' tq : TM Bool} (h1 : SimM c1 f g p tp') (h2 : SimM c2 f g q tq) (hc : c1 + c2 ≤ c) : SimM c f g (tAndM p q) (ttAnd tp' tq) := sm_bind h1 (fun _ => sm_ite h2 sm_P) hc
theorem sm_tOr {p q : M Bool} {tp' tq : TM Bool} (h1 : SimM c1 f g p tp') (h2 : SimM c2 f g q tq) (hc : c1 + c2 ≤ c) : SimM c f g (tOrM p q) (ttOr tp' tq) := sm_bind h1 (fun _ => sm_ite sm_P h2) hc
theorem sm_tNot {p : M Bool} {tp' : TM Bool} (h1 : SimM c f g p tp') : SimM c f g (tNotM p) (ttNot tp') := sm_bind (c2 := 0) h1 (fun _ => sm_P) (Nat.le_refl _)
/-! calls -/
theorem sm_call0 {np : Nat} {F : List Ent → R D} {tF : List D → TM D} (hx : Wk f g) (hF : SimF0 F tF) (h : SimM c f g m tm) : SimM c f g (callD np F m) (tb tm fun ds => tA (ds.length = np) (tF ds)) :=
  sm_bind (c2 := 0) h (fun ds k r P E q l ⟨h1, p⟩ => by
    have := hF ds P E p
    unfold WxF at this
    unfold Wx
    simp only [h1, if_true]
    cases e : F (valsOf ds) with
    | ok d o => rw [e] at this; exact ⟨q, this⟩
    | exc x p o => rw [e] at this; exact ⟨q.wk hx, this⟩
    | bad => rw [e] at this; exact this) (Nat.le_refl _)
theorem sm_callD {np : Nat} {F : List Ent → R D} {tF : List D → TM D} (hx : Wk f g) (hF : SimF0 F tF) (hn : ∀ ds P E, tF ds P E → ds.length = np) (h : SimM c f g m tm) : SimM c f g (callD np F m) (tb tm tF) := fun k r P E q l p =>
  sm_call0 (np := np) hx hF h k r P E q l (by
    have : (fun (ds : List D) => tA (ds.length = np) (tF ds)) = tF := by
      funext ds P E
      exact propext ⟨fun h => h.2, fun h => ⟨hn ds P E h, h⟩⟩
    rw [this]; exact p)
theorem sm_callL {np : Nat} {F : List Ent → R D} {tF : List D → TM D} (hx : Wk f g) (hF : SimF0 F tF) (hn : ∀ ds P E, tF ds P E → ds.length = np) (h : SimM c f g m tm) : SimM c f g (callL np F m) (tUnL (tb tm tF)) := fun k r P E q l p => by
  refine sm_bind (c2 := 0) (t := tm) (u := fun ds => tUnL (tF ds)) h (fun ds k r P E q l p => ?_) (Nat.le_refl _) k r P E q l p
  have h1 := hn ds _ _ p
  have := hF ds _ E p
  unfold WxF at this
  unfold Wx
  simp only [h1, if_true]
  cases e : F (valsOf ds) with
  | ok d o =>
    rw [e] at this
    obtain ⟨es, e2, p2⟩ := this
    cases d <;> try (cases e2; done)
    cases e2
    exact ⟨q, p2⟩
  | exc x p o => rw [e] at this; exact ⟨q.wk hx, this⟩
  | bad => rw [e] at this; exact this
theorem sm_callKw {np n : Nat} {ix : List Nat} {F : List Ent → R D} {tF : List D → TM D} (hx : Wk f g) (hF : SimF0 F tF) (hn : ∀ ds P E, tF ds P E → ds.length = np) (h : SimM c f g m tm) : SimM c f g (callKw np n ix F m) (tb tm fun ds => tA (ds.length = n) (tF (ordL ix ds))) :=
  sm_bind (c2 := 0) h (fun ds k r P E q l ⟨h1, p⟩ => by
    have h2 := hn _ _ _ p
    have := hF _ P E p
    unfold WxF at this
    unfold Wx
    simp only [h1, h2, and_self, decide_true, if_true]
    cases e : F (valsOf (ordL ix ds)) with
    | ok d o => rw [e] at this; exact ⟨q, this⟩
    | exc x p o => rw [e] at this; exact ⟨q.wk hx, this⟩
    | bad => rw [e] at this; exact this) (Nat.le_refl _)
theorem sm_callP {np i : Nat} {v : Str} {F : List Ent → R D} {tF : List D → TM D} (hv : ∀ js ds, (f js ds)[i]? = some (.val (.dfn v))) (hx : Wk f g) (hF : SimF0 F tF) (hn : ∀ ds P E, tF ds P E → ds.length = np) (h : SimM c f g m tm) : SimM c f g (callP i v np F m) (tb tm tF) := fun k r P E q l p => by
  obtain ⟨js, ds, w, rfl⟩ := q
  refine wx_B (wx_of (a := ()) (r' := f js ds) (by unfold isDef; rw [hv]; simp) ?_)
  exact sm_callD hx hF hn h k _ P E ⟨js, ds, w, rfl⟩ l p
/-! calls with the well -/
inductive AL : Nat → List Arg → List D → Prop
theorem allV_of : ∀ post : List D, allV (post.map Arg.val) = some post
  | [] => rfl
  | d :: ds => by simp only [List.map_cons, allV, allV_of ds, Option.map_some]
theorem splitA_of : ∀ (pre post : List D) (j : Nat), splitA (pre.map Arg.val ++ .late j :: post.map Arg.val) = some (pre, j, post)
  | [], post, j => by simp [splitA, allV_of]
  | d :: ds, post, j => by simp [splitA, splitA_of ds post j]
/-- arguments behind, ahead of the well -/
def SimA (c : Nat) (f g : Pat) (m : M (List Arg)) (t : TM (List D)) : Prop := SimM c f g m (tb t fun ds => tp (ds.map Arg.val))
def SimAj (c i j : Nat) (f g : Pat) (m : M (List Arg)) (t : TM (List D)) : Prop := SimM c f g m (tb t fun ds => tA (i ≤ ds.length) (tp ((ds.take i).map Arg.val ++ .late j :: (ds.drop i).map Arg.val)))
theorem sa'_nil : SimA c f g (mP []) (tp []) := sm_P
theorem sa'_val {m : M (List Arg)} {tm : TM (List D)} (h1 : SimM c1 f g a ta) (h2 : SimA c2 f g m tm) (hc : c1 + c2 ≤ c) : SimA c f g (aVal a m) (tCons ta tm) :=
  sm_bind (u := fun d => tb tm fun ds => tp (Arg.val d :: ds.map Arg.val)) h1 (fun d => sm_bind (c2 := 0) (t := tb tm fun ds => tp (ds.map Arg.val)) (u := fun as => tp (Arg.val d :: as)) h2 (fun _ => sm_P) (Nat.le_refl _)) hc
theorem sj_late {j : Nat} {m : M (List Arg)} {tm : TM (List D)} (hj : ∀ js ds, ∃ k xs, (f js ds)[j]? = some (.cel k xs)) (h2 : SimA c f g m tm) : SimAj c 0 j f g (aLate j m) tm := fun k r P E q l p => by
  obtain ⟨js, ds, w, rfl⟩ := q
  obtain ⟨kk, xs, e⟩ := hj js ds
  refine wx_B (wx_of (a := ()) (r' := f js ds) (by unfold hasS; rw [e]) ?_)
  refine sm_bind (c2 := 0) (t := tb tm fun ds => tp (ds.map Arg.val)) (u := fun as => tp (Arg.late j :: as)) h2 (fun _ => sm_P) (Nat.le_refl _) k _ P E ⟨js, ds, w, rfl⟩ l ?_
  have : (fun ds : List D => tA (0 ≤ ds.length) (tp ((ds.take 0).map Arg.val ++ .late j :: (ds.drop 0).map Arg.val))) = fun ds => tp (Arg.late j :: ds.map Arg.val) := by
    funext ds
    rw [tA_true _ (Nat.zero_le _)]
    rfl
  rw [this] at p
  exact p
theorem sj_val {i j : Nat} {m : M (List Arg)} {tm : TM (List D)} (h1 : SimM c1 f g a ta) (h2 : SimAj c2 i j f g m tm) (hc : c1 + c2 ≤ c) : SimAj c (i + 1) j f g (aVal a m) (tCons ta tm) := fun k r P E q l p => by
  refine sm_bind (c := c) (u := fun d => tb (tb tm fun ds => tA (i ≤ ds.length) (tp ((ds.take i).map Arg.val ++ .late j :: (ds.drop i).map Arg.val))) fun as => tp (Arg.val d :: as)) h1 (fun d => sm_bind (c2 := 0) h2 (fun _ => sm_P) (Nat.le_refl _)) hc k r P E q l ?_
  refine Eq.mp ?_ p
  show tb (tb ta fun d => tb tm fun ds => tp (d :: ds)) _ P E = _
  unfold tb tp tA
  simp only [List.length_cons, Nat.add_le_add_iff_right, List.take_succ_cons, List.map_cons, List.cons_append, List.drop_succ_cons]
theorem sm_callI {np i j : Nat} {T : List Nat} {F : List Ent → R D} {tF : List D → TM D} {m : M (List Arg)} {tm : TM (List D)} (hx : Wk f g) (hw : ∀ js ds, ∃ kk, (f js ds)[j]? = some (.cel kk ds) ∧ ∀ ds', (f js ds).set j (.cel kk ds') = f js ds') (hT : j ∈ T) (hF : SimFW c2 i F tF) (hn : ∀ ds P E, tF ds P E → ds.length + 1 = np) (hi : i < np)
    (h : SimAj c1 i j f g m tm) (hc : c1 + c2 ≤ c) : SimM c f g (callI np i T F m) (tb tm tF) := fun k r P E q l p => by
  have pe : (fun ds => tF ds P E) = fun ds : List D => i ≤ ds.length ∧ ∃ s, splitA ((ds.take i).map Arg.val ++ Arg.late j :: (ds.drop i).map Arg.val) = some s ∧ s.1.length = i ∧ s.2.1 = j ∧ ((ds.take i).map Arg.val ++ Arg.late j :: (ds.drop i).map Arg.val).length = np ∧ tF (s.1 ++ s.2.2) P E := by
    funext ds
    refine propext ⟨fun z => ?_, fun ⟨h1, s, e, h2, h3, h4, z⟩ => ?_⟩
    · have h1 := hn ds P E z
      refine ⟨by omega, _, splitA_of _ _ _, ?_, rfl, ?_, ?_⟩
      · rw [List.length_take]; omega
      · simp only [List.length_append, List.length_map, List.length_take, List.length_cons, List.length_drop]; omega
      · rw [List.take_append_drop]; exact z
    · rw [splitA_of] at e
      cases e
      rw [List.take_append_drop] at z
      exact z
  refine wx_B ((h k r (fun as => ∃ s, splitA as = some s ∧ s.1.length = i ∧ s.2.1 = j ∧ as.length = np ∧ tF (s.1 ++ s.2.2) P E) E q (by omega) ?_).imp (fun as r1 ⟨q1, s, e1, e2, e3, e4, p1⟩ => ?_) fun _ _ _ ⟨a, b⟩ => ⟨a.up (by omega), b⟩)
  · exact Eq.mp (congrArg (fun z => tm z E) pe) p
  · obtain ⟨pre, j', post⟩ := s
    cases e3
    obtain ⟨js, ds, w, rfl⟩ := q1
    obtain ⟨kk, e5, e6⟩ := hw js ds
    have := hF (k + c1) ds pre post P E e2 w (by omega) p1
    unfold WxF at this
    unfold Wx
    simp only [e1, e4, e2, hT, and_self, decide_true, if_true, e5]
    cases e : F (ioArgs pre ds post) with
    | ok d o =>
      rw [e] at this
      obtain ⟨⟨w', h1, rfl⟩, p2⟩ := this
      exact ⟨⟨js, w', h1.up (by omega), e6 w'⟩, p2⟩
    | exc x pl o =>
      rw [e] at this
      obtain ⟨⟨w', h1, rfl⟩, p2⟩ := this
      exact ⟨Got.wk ⟨js, w', h1.up (by omega), e6 w'⟩ hx, p2⟩
    | bad => rw [e] at this; exact this.elim
theorem sm_callIL {np i j : Nat} {T : List Nat} {F : List Ent → R D} {tF : List D → TM D} {m : M (List Arg)} {tm : TM (List D)} (hx : Wk f g) (hw : ∀ js ds, ∃ kk, (f js ds)[j]? = some (.cel kk ds) ∧ ∀ ds', (f js ds).set j (.cel kk ds') = f js ds') (hT : j ∈ T) (hF : SimFW c2 i F tF) (hn : ∀ ds P E, tF ds P E → ds.length + 1 = np) (hi : i < np)
    (h : SimAj c1 i j f g m tm) (hc : c1 + c2 ≤ c) : SimM c f g (callIL np i T F m) (tUnL (tb tm tF)) := fun k r P E q l p => by
  have pe : (fun ds => tF ds (fun d => ∃ a, unL d = some a ∧ P a) E) = fun ds : List D => i ≤ ds.length ∧ ∃ s, splitA ((ds.take i).map Arg.val ++ Arg.late j :: (ds.drop i).map Arg.val) = some s ∧ s.1.length = i ∧ s.2.1 = j ∧ ((ds.take i).map Arg.val ++ Arg.late j :: (ds.drop i).map Arg.val).length = np ∧ tF (s.1 ++ s.2.2) (fun d => ∃ a, unL d = some a ∧ P a) E := by
    funext ds
    refine propext ⟨fun z => ?_, fun ⟨h1, s, e, h2, h3, h4, z⟩ => ?_⟩
    · have h1 := hn ds _ E z
      refine ⟨by omega, _, splitA_of _ _ _, ?_, rfl, ?_, ?_⟩
      · rw [List.length_take]; omega
      · simp only [List.length_append, List.length_map, List.length_take, List.length_cons, List.length_drop]; omega
      · rw [List.take_append_drop]; exact z
    · rw [splitA_of] at e
      cases e
      rw [List.take_append_drop] at z
      exact z
  refine wx_B ((h k r (fun as => ∃ s, splitA as = some s ∧ s.1.length = i ∧ s.2.1 = j ∧ as.length = np ∧ tF (s.1 ++ s.2.2) (fun d => ∃ a, unL d = some a ∧ P a) E) E q (by omega) ?_).imp (fun as r1 ⟨q1, s, e1, e2, e3, e4, p1⟩ => ?_) fun _ _ _ ⟨a, b⟩ => ⟨a.up (by omega), b⟩)
  · exact Eq.mp (congrArg (fun z => tm z E) pe) p
  · obtain ⟨pre, j', post⟩ := s
    cases e3
    obtain ⟨js, ds, w, rfl⟩ := q1
    obtain ⟨kk, e5, e6⟩ := hw js ds
    have := hF (k + c1) ds pre post _ E e2 w (by omega) p1
    unfold WxF at this
    unfold Wx
    simp only [e1, e4, e2, hT, and_self, decide_true, if_true, e5]
    cases e : F (ioArgs pre ds post) with
    | ok d o =>
      rw [e] at this
      obtain ⟨⟨w', h1, rfl⟩, b, e7, p2⟩ := this
      simp only [e7]
      exact ⟨⟨js, w', h1.up (by omega), e6 w'⟩, p2⟩
    | exc x pl o =>
      rw [e] at this
      obtain ⟨⟨w', h1, rfl⟩, p2⟩ := this
      exact ⟨Got.wk ⟨js, w', h1.up (by omega), e6 w'⟩ hx, p2⟩
    | bad => rw [e] at this; exact this.elim
end
end FL
namespace FL
open PySem PySem.Spec L2
section
variable {α β τ σ : Type} {f g f2 : Pat} {c c1 c2 c3 : Nat} {fl : τ → Fl → Prop} {pat : τ → Pat} {t : TM τ}
/-! ### a list of one's own -/
theorem got_set {f f2 : Pat} {j k : Nat} {e : List Ent} (h : ∀ js ds, f2 js ds = (f js ds)) : Got f k e → Got f2 k e := fun ⟨js, ds, w, q⟩ => ⟨js, ds, w, q.trans (h js ds).symm⟩
theorem sm_lend {S : List Nat} {j : Nat} {ok : α → Bool} {m : M α} {tm : TM α} {xs : List D} {kk : CK} (f2 : Pat) (h0 : ∀ js ds, (f js ds)[j]? = some (.cel kk xs)) (h1 : ∀ js ds, (f js ds).set j (.val (.lst xs)) = f2 js ds) (h2 : ∀ js ds, (f2 js ds).set j (.cel kk xs) = f js ds) (h3 : ∀ js ds, okT S (f2 js ds) = true)
    (h : SimM c f2 anyP m (tNX tm)) : SimM c f g (lend S j ok m) (tNX (tLend ok tm)) := fun k r P E q l p => by
  obtain ⟨js, ds, w, rfl⟩ := q
  have := h k (f2 js ds) (fun a => ok a = true ∧ P a) (fun _ _ => False) ⟨js, ds, w, rfl⟩ l p
  unfold Wx at this ⊢
  unfold lend
  rw [h0]
  simp only [h1]
  cases e : m (f2 js ds) with
  | ok a o =>
    rw [e] at this
    obtain ⟨⟨js', ds', w', e2⟩, h4, h5⟩ := this
    rw [e2]
    simp only [h4, h3, Bool.and_self, if_true]
    exact ⟨⟨js', ds', w', h2 js' ds'⟩, h5⟩
  | exc c p o => rw [e] at this; exact this.2.elim
  | bad => rw [e] at this; exact this.elim
theorem sm_nx0 {m : M α} {tm : TM α} (h : SimM c f g m tm) : SimM c f anyP m (tNX tm) := fun k r P E q l p => (h k r P (fun _ _ => False) q l p).imp (fun _ _ z => z) fun _ _ _ z => z.2.elim
/-! ### blocks -/
theorem sb_any {m : M Fl} {t : TM τ} (h : ∀ k r P E, Got f k r → k + c ≤ big → t P E → Wx m r (fun x r => ∃ a, fl a x ∧ Got (pat a) (k + c) r ∧ P a) fun x p r => Got g (k + c) r ∧ E x p) : SimB c f g m t fl pat := h
theorem SimB.up {m : M Fl} (h : SimB c1 f g m t fl pat) (e : c1 ≤ c) : SimB c f g m t fl pat := fun k r P E q l p =>
  (h k r P E q (by omega) p).imp (fun _ _ ⟨a, b, q, z⟩ => ⟨a, b, q.up (by omega), z⟩) fun _ _ _ ⟨a, b⟩ => ⟨a.up (by omega), b⟩
theorem sb_last {m : M Fl} (h : SimB c f g (sSeq m (mP .nx)) t fl pat) : SimB c f g m t fl pat := fun k r P E q l p => by
  have := h k r P E q l p
  unfold Wx sSeq mB mP at this
  unfold Wx
  cases e : m r with
  | ok a o => rw [e] at this; cases a <;> exact this
  | exc x p o => rw [e] at this; exact this
  | bad => rw [e] at this; exact this
theorem sb_assoc {a b m : M Fl} (h : SimB c f g (sSeq a (sSeq b m)) t fl pat) : SimB c f g (sSeq (sSeq a b) m) t fl pat := fun k r P E q l p => by
  have := h k r P E q l p
  unfold Wx sSeq mB mP at this ⊢
  cases e : a r with
  | ok x o =>
    rw [e] at this
    cases x <;> try exact this
  | exc x p o => rw [e] at this; exact this
  | bad => rw [e] at this; exact this
theorem sb_nxseq {m : M Fl} (h : SimB c f g m t fl pat) : SimB c f g (sSeq (mP .nx) m) t fl pat := h
theorem sb_exit {a m : M Fl} (h : SimB c f g a t fl pat) (hx : ∀ s x, fl s x → x ≠ .nx) : SimB c f g (sSeq a m) t fl pat := fun k r P E q l p =>
  wx_B ((h k r P E q l p).imp (fun x r1 ⟨s, h1, h2, h3⟩ => by
    cases x with
    | nx => exact (hx s _ h1 rfl).elim
    | _ => exact ⟨s, h1, h2, h3⟩) fun _ _ _ z => z)
/-- a step that falls through, and what follows -/
def Nx (x : Fl) : Prop := x = .nx
theorem sb_seq {a m : M Fl} {ta : TM σ} {p1 : σ → Pat} {u : σ → TM τ} (h1 : SimB c1 f g a ta (fun _ => Nx) p1) (h2 : ∀ s, SimB c2 (p1 s) g m (u s) fl pat) (hc : c1 + c2 ≤ c) : SimB c f g (sSeq a m) (tb ta u) fl pat := fun k r P E q l p =>
  wx_B ((h1 k r _ E q (by omega) p).imp (fun x r1 ⟨s, e, q1, p1⟩ => by
    cases e
    exact (h2 s (k + c1) r1 P E q1 (by omega) p1).imp (fun _ _ ⟨a, b, q, z⟩ => ⟨a, b, q.up (by omega), z⟩) fun _ _ _ ⟨a, b⟩ => ⟨a.up (by omega), b⟩) fun _ _ _ ⟨a, b⟩ => ⟨a.up (by omega), b⟩)
theorem sb_nx (s : τ) (h : fl s .nx) (w : Wk f (pat s)) : SimB c f g (mP .nx) (tp s) fl pat := fun k r P E q l p => ⟨s, h, (q.up (by omega)).wk w, p⟩
theorem sb_br (s : τ) (h : fl s .br) (w : Wk f (pat s)) : SimB c f g (mP .br) (tp s) fl pat := fun k r P E q l p => ⟨s, h, (q.up (by omega)).wk w, p⟩
theorem sb_co (s : τ) (h : fl s .co) (w : Wk f (pat s)) : SimB c f g (mP .co) (tp s) fl pat := fun k r P E q l p => ⟨s, h, (q.up (by omega)).wk w, p⟩
theorem sb_rt0 (s : τ) (d : D) (h : fl s (.rt d)) (w : Wk f (pat s)) : SimB c f g (mP (.rt d)) (tp s) fl pat := fun k r P E q l p => ⟨s, h, (q.up (by omega)).wk w, p⟩
theorem sb_bad {m : M Fl} : SimB c f g m tBad fl pat := fun _ _ _ _ _ _ p => p.elim
/-- return, of a def's block -/
def flR (d : D) (x : Fl) : Prop := x = .rt d ∨ (x = .nx ∧ d = .non) 
def flR' (d : D) (x : Fl) : Prop := x = .rt d
def flL (d : D) (x : Fl) : Prop := ∃ ds, d = .lst ds ∧ x = .rtL ds
theorem sb_ret {m : M D} {tm : TM D} (hw : Wk f g) (h : SimM c f g m tm) : SimB c f g (sRet m) tm flR' (fun _ => g) := fun k r P E q l p =>
  wx_B ((h k r P E q l p).imp (fun a r1 ⟨q1, p1⟩ => ⟨a, rfl, q1.wk hw, p1⟩) fun _ _ _ z => z)
theorem sb_retX {m : M D} {tm : TM D} {τ : Type} {fl : Lx τ → Fl → Prop} {pat : Lx τ → Pat} (hf : ∀ d, fl (.rt d) (.rt d)) (hp : ∀ d, Wk f (pat (.rt d))) (h : SimM c f g m tm) : SimB c f g (sRet m) (tb tm fun d => tp (.rt d)) fl pat := fun k r P E q l p =>
  wx_B ((h k r _ E q l p).imp (fun a r1 ⟨q1, p1⟩ => ⟨.rt a, hf a, q1.wk (hp a), p1⟩) fun _ _ _ z => z)
theorem sb_retN (hw : Wk f g) : SimB c f g (mP (.rt .non)) (tp .non) flR' (fun _ => g) := fun k r P E q l p => ⟨.non, rfl, (q.up (by omega)).wk hw, p⟩
theorem sb_endN (hw : Wk f g) : SimB c f g (mP .nx) (tp .non) flR (fun _ => g) := fun k r P E q l p => ⟨.non, .inr ⟨rfl, rfl⟩, (q.up (by omega)).wk hw, p⟩
theorem sb_rr {m : M Fl} {t : TM D} {pat : D → Pat} (h : SimB c f g m t flR' pat) : SimB c f g m t flR pat := fun k r P E q l p => (h k r P E q l p).imp (fun _ _ ⟨a, b, z⟩ => ⟨a, .inl b, z⟩) fun _ _ _ z => z
theorem sb_retL {m : M (List D)} {tm : TM (List D)} (hw : Wk f g) (h : SimM c f g m tm) : SimB c f g (sRetL m) (tFz tm) flL (fun _ => g) := fun k r P E q l p =>
  wx_B ((h k r _ E q l p).imp (fun a r1 ⟨q1, p1⟩ => ⟨.lst a, ⟨a, rfl, rfl⟩, q1.wk hw, p1⟩) fun _ _ _ z => z)
theorem sb_retC {i : Nat} {xs : List D} (h0 : ∀ js ds, (f js ds)[i]? = some (.cel .own xs)) (hw : Wk f g) : SimB c f g (sRetC i) (tp (.lst xs)) flL (fun _ => g) := fun k r P E q l p => by
  obtain ⟨js, ds, w, rfl⟩ := q
  unfold Wx sRetC
  rw [h0]
  exact ⟨.lst xs, ⟨xs, rfl, rfl⟩, Got.wk ⟨js, ds, w.up (by omega), rfl⟩ hw, p⟩
theorem sb_expr {m : M D} {tm : TM D} {r : M Fl} {u : D → TM τ} (h : SimM c1 f g m tm) (h2 : ∀ d, SimB c2 f g r (u d) fl pat) (hc : c1 + c2 ≤ c) : SimB c f g (sSeq (sExpr m) r) (tb tm u) fl pat :=
  sb_seq (p1 := fun _ => f) (fun k r P E q l p => wx_B ((h k r P E q l p).imp (fun a r1 ⟨q1, p1⟩ => ⟨a, rfl, q1, p1⟩) fun _ _ _ z => z)) h2 hc
theorem sb_set {i : Nat} {m : M D} {tm : TM D} {r : M Fl} {u : D → TM τ} (f2 : D → Pat) (h : SimM c1 f g m tm) (h0 : ∀ js ds, i < (f js ds).length) (h1 : ∀ d js ds, (f js ds).set i (.val d) = f2 d js ds) (h2 : ∀ d, SimB c2 (f2 d) g r (u d) fl pat) (hc : c1 + c2 ≤ c) :
    SimB c f g (sSeq (sSet i m) r) (tb tm u) fl pat :=
  sb_seq (p1 := f2) (fun k r P E q l p => wx_B ((h k r P E q l p).imp (fun a r1 ⟨⟨js, ds, w, e⟩, p1⟩ => wx_B (wx_of (a := ()) (r' := r1.set i (.val a)) (by unfold setv; rw [e, if_pos (h0 js ds)]) ⟨a, rfl, ⟨js, ds, w, by rw [e, h1]⟩, p1⟩)) fun _ _ _ z => z)) h2 hc
theorem sb_setL {i : Nat} {m : M (List D)} {tm : TM (List D)} {r : M Fl} {u : List D → TM τ} (f2 : List D → Pat) (h : SimM c1 f g m tm) (h0 : ∀ js ds, i < (f js ds).length) (h1 : ∀ d js ds, (f js ds).set i (.cel .own d) = f2 d js ds) (h2 : ∀ d, SimB c2 (f2 d) g r (u d) fl pat) (hc : c1 + c2 ≤ c) :
    SimB c f g (sSeq (sSetL i m) r) (tb tm u) fl pat :=
  sb_seq (p1 := f2) (fun k r P E q l p => wx_B ((h k r P E q l p).imp (fun a r1 ⟨⟨js, ds, w, e⟩, p1⟩ => wx_B (wx_of (a := ()) (r' := r1.set i (.cel .own a)) (by unfold setc; rw [e, if_pos (h0 js ds)]) ⟨a, rfl, ⟨js, ds, w, by rw [e, h1]⟩, p1⟩)) fun _ _ _ z => z)) h2 hc
/-- a new well -/
def SimWell (F : List Ent → R D) (t : List D → TM Unit) : Prop := ∀ (ds : List D) (P : Unit → Prop) (E : XP), t ds P E → WxF F (valsOf ds) (fun d _ => (∃ es, d = .lst es ∧ Wel 0 es) ∧ P ()) fun _ _ _ => False
theorem sb_setW {i np : Nat} {F : List Ent → R D} {tF : List D → TM Unit} {m : M (List D)} {tm : TM (List D)} {r : M Fl} {u : Unit → TM τ} (f2 : Pat) (hF : SimWell F tF) (hn : ∀ ds P E, tF ds P E → ds.length = np) (h : SimM c1 f g m tm) (h0 : ∀ js ds, i < (f js ds).length) (h1 : ∀ d js ds, (f js ds).set i (.cel .own d) = f2 js d) (h2 : SimB c2 f2 g r (u ()) fl pat) (hc : c1 + c2 ≤ c) :
    SimB c f g (sSeq (sSetL i (callL np F m)) r) (tb (tb tm tF) u) fl pat :=
  sb_seq (p1 := fun _ => f2) (fun k r P E q l p => by
    refine wx_B (wx_B ((h k r _ E q l p).imp (fun ds r1 ⟨⟨js, w, hw, e⟩, p1⟩ => ?_) fun _ _ _ z => z))
    have l1 := hn ds _ _ p1
    have := hF ds P E p1
    unfold WxF at this
    unfold Wx
    simp only [l1, if_true]
    cases e2 : F (valsOf ds) with
    | ok d o =>
      rw [e2] at this
      obtain ⟨⟨es, rfl, hes⟩, p2⟩ := this
      refine wx_B (wx_of (a := ()) (r' := r1.set i (.cel .own es)) (by unfold setc; rw [e, if_pos (h0 js w)]) ⟨(), rfl, ⟨js, es, hes.up (Nat.zero_le _), by rw [e, h1]⟩, p2⟩)
    | exc x p o => rw [e2] at this; exact this.elim
    | bad => rw [e2] at this; exact this.elim) (fun _ => h2) hc
theorem sb_frz {j : Nat} {m : M Fl} {xs : List D} (f2 : Pat) (h0 : ∀ js ds, (f js ds)[j]? = some (.cel .own xs)) (h1 : ∀ js ds, (f js ds).set j (.val (.lst xs)) = f2 js ds) (h : SimB c f2 g m t fl pat) : SimB c f g (frz j m) t fl pat := fun k r P E q l p => by
  obtain ⟨js, ds, w, rfl⟩ := q
  have := h k (f2 js ds) P E ⟨js, ds, w, rfl⟩ l p
  unfold Wx at this ⊢
  unfold frz
  rw [h0]
  simp only [h1]
  exact this
theorem sb_app {j : Nat} {kk : CK} {xs : List D} {m : M D} {tm : TM D} {r : M Fl} {u : List D → TM τ} (f2 : List D → Pat) (h : SimM c1 f g m tm) (h0 : ∀ js ds, (f js ds)[j]? = some (.cel kk xs)) (h1 : ∀ d js ds, (f js ds).set j (.cel kk d) = f2 d js ds) (h2 : ∀ d, SimB c2 (f2 d) g r (u d) fl pat) (hc : c1 + c2 ≤ c) :
    SimB c f g (sSeq (sApp j m) r) (tb (tApp xs tm) u) fl pat :=
  sb_seq (p1 := f2) (fun k r P E q l p => by
    obtain ⟨js, ds, w, rfl⟩ := q
    refine wx_B (wx_of (a := ()) (r' := f js ds) (by unfold hasC; rw [h0]) ?_)
    refine wx_B ((h k _ _ E ⟨js, ds, w, rfl⟩ l p).imp (fun a r1 ⟨⟨js, ds, w, e⟩, p1, p2⟩ => ?_) fun _ _ _ z => z)
    refine wx_B (wx_of (a := ()) (r' := r1.set j (.cel kk (xs ++ [a]))) (by unfold updc appC; rw [e, h0]; simp only; rw [if_pos (decide_eq_true p1)]) ⟨_, rfl, ⟨js, ds, w, by rw [e, h1]⟩, p2⟩)) h2 hc
theorem sb_ext {j : Nat} {kk : CK} {xs : List D} {m : M D} {tm : TM D} {r : M Fl} {u : List D → TM τ} (f2 : List D → Pat) (h : SimM c1 f g m tm) (h0 : ∀ js ds, (f js ds)[j]? = some (.cel kk xs)) (h1 : ∀ d js ds, (f js ds).set j (.cel kk d) = f2 d js ds) (h2 : ∀ d, SimB c2 (f2 d) g r (u d) fl pat) (hc : c1 + c2 ≤ c) :
    SimB c f g (sSeq (sExt j m) r) (tb (tExt xs tm) u) fl pat :=
  sb_seq (p1 := f2) (fun k r P E q l p => by
    obtain ⟨js, ds, w, rfl⟩ := q
    refine wx_B (wx_of (a := ()) (r' := f js ds) (by unfold hasC; rw [h0]) ?_)
    refine wx_B ((h k _ _ E ⟨js, ds, w, rfl⟩ l p).imp (fun a r1 ⟨⟨js, ds, w, e⟩, es, p1, p2⟩ => ?_) fun _ _ _ z => z)
    refine wx_B (wx_of (a := ()) (r' := r1.set j (.cel kk es)) (by unfold updc; rw [e, h0]; simp only; rw [p1]) ⟨_, rfl, ⟨js, ds, w, by rw [e, h1]⟩, p2⟩)) h2 hc
/-! if -/
theorem sb_if {k : M Bool} {tk : TM Bool} {a b : M Fl} {ta tb' : TM τ} (h0 : SimM c1 f g k tk) (h1 : SimB c2 f g a ta fl pat) (h2 : SimB c3 f g b tb' fl pat) (hc : c1 + (c2 + c3) ≤ c) : SimB c f g (sIf k a b) (tIf tk ta tb') fl pat := fun kk r P E q l p =>
  wx_B ((h0 kk r _ E q (by omega) p).imp (fun x r1 ⟨q1, p1⟩ => by
    cases x with
    | true => exact (h1 (kk + c1) r1 P E q1 (by omega) p1).imp (fun _ _ ⟨a, b, q, z⟩ => ⟨a, b, q.up (by omega), z⟩) fun _ _ _ ⟨a, b⟩ => ⟨a.up (by omega), b⟩
    | false => exact (h2 (kk + c1) r1 P E q1 (by omega) p1).imp (fun _ _ ⟨a, b, q, z⟩ => ⟨a, b, q.up (by omega), z⟩) fun _ _ _ ⟨a, b⟩ => ⟨a.up (by omega), b⟩) fun _ _ _ ⟨a, b⟩ => ⟨a.up (by omega), b⟩)
theorem sb_ifseq {k : M Bool} {a b m : M Fl} (h : SimB c f g (sIf k (sSeq a m) (sSeq b m)) t fl pat) : SimB c f g (sSeq (sIf k a b) m) t fl pat := fun kk r P E q l p => by
  have := h kk r P E q l p
  unfold Wx sSeq sIf mB at this ⊢
  cases e : k r with
  | ok x o =>
    rw [e] at this
    cases x <;> exact this
  | exc x p o => rw [e] at this; exact this
  | bad => rw [e] at this; exact this
/-! targets -/
theorem sg_v {i : Nat} {d : D} (f2 : D → Pat) (h0 : ∀ js ds, i < (f js ds).length) (h1 : ∀ d js ds, (f js ds).set i (.val d) = f2 d js ds) : SimG c f g (setv i d) (tp d) f2 := fun k r P E ⟨js, ds, w, e⟩ l p =>
  wx_of (a := ()) (r' := r.set i (.val d)) (by unfold setv; rw [e, if_pos (h0 js ds)]) ⟨d, ⟨js, ds, w.up (by omega), by rw [e, h1]⟩, p⟩
theorem unTup_of {n : Nat} {d : D} {ds : List D} (e : unTup n d = some ds) : d = .tup ds ∧ ds.length = n := by
  cases d <;> simp [unTup] at e
  exact ⟨by rw [e.2], by rw [← e.2]; exact e.1⟩
theorem sg_tup' {n : Nat} {gs : List D → M Unit} {d : D} {tg : List D → TM σ} {f2 : σ → Pat} (h : ∀ ds, SimG c f g (gs ds) (tg ds) f2) : SimG c f g (gsTup n gs d) (tb (tO (unTup n d)) tg) f2 := fun k r P E q l ⟨ds, e, p⟩ => by
  obtain ⟨rfl, hl⟩ := unTup_of e
  have := h ds k r P E q l p
  unfold Wx at this ⊢
  unfold gsTup
  simp only [hl, if_true]
  exact this
def tgNil : List D → TM Unit := fun ds => match ds with
  | [] => tp ()
  | _ => tBad
def tgCons {σ ρ : Type} (a : D → TM σ) (b : σ → List D → TM ρ) : List D → TM (σ × ρ) := fun ds => match ds with
  | d :: r => tb (a d) fun s => tb (b s r) fun u => tp (s, u)
  | [] => tBad
theorem sg_nil' {ds : List D} : SimG c f g (gsNil ds) (tgNil ds) (fun _ => f) := fun k r P E q l p => by
  cases ds with
  | nil => exact ⟨(), q.up (by omega), p⟩
  | cons _ _ => exact p.elim
theorem sg_cons' {ρ : Type} {a : D → M Unit} {b : List D → M Unit} {ta : D → TM σ} {tb' : σ → List D → TM ρ} {f1 : σ → Pat} {f2 : σ → ρ → Pat} {ds : List D} (h1 : ∀ d, SimG c1 f g (a d) (ta d) f1) (h2 : ∀ s ds, SimG c2 (f1 s) g (b ds) (tb' s ds) (f2 s)) (hc : c1 + c2 ≤ c) : SimG c f g (gsCons a b ds) (tgCons ta tb' ds) (fun p => f2 p.1 p.2) := fun k r P E q l p => by
  cases ds with
  | nil => exact p.elim
  | cons d ds =>
    refine wx_B ((h1 d k r _ E q (by omega) p).imp (fun _ r1 ⟨s, q1, p1⟩ => ?_) fun _ _ _ ⟨a, b⟩ => ⟨a.up (by omega), b⟩)
    exact (h2 s ds (k + c1) r1 _ E q1 (by omega) p1).imp (fun _ _ ⟨u, q2, p2⟩ => ⟨(s, u), q2.up (by omega), p2⟩) fun _ _ _ ⟨a, b⟩ => ⟨a.up (by omega), b⟩
theorem sg_s {j : Nat} {kk : CK} {xs : List D} {ix : M D} {ti : TM D} {d : D} (f2 : List D → Pat) (hi : SimM c f g ix ti) (h0 : ∀ js ds, (f js ds)[j]? = some (.cel kk xs)) (h1 : ∀ d js ds, (f js ds).set j (.cel kk d) = f2 d js ds) : SimG c f g (gsSub j ix d) (tSub xs ti d) f2 := fun k r P E q l p => by
  obtain ⟨js, ds, w, rfl⟩ := q
  refine wx_B (wx_of (a := ()) (r' := f js ds) (by unfold hasC; rw [h0]) ?_)
  refine wx_B ((hi k _ _ E ⟨js, ds, w, rfl⟩ l p).imp (fun a r1 ⟨⟨js, ds, w, e⟩, es, p1, p2⟩ => ?_) fun _ _ _ z => z)
  refine wx_B (wx_of (a := ()) (r' := r1.set j (.cel kk es)) (by unfold updc; rw [e, h0]; simp only; rw [p1]) ⟨_, ⟨js, ds, w, by rw [e, h1]⟩, p2⟩)
theorem sb_asg {m : M D} {tm : TM D} {gt : D → M Unit} {tg : D → TM σ} {r : M Fl} {u : σ → TM τ} {f2 : σ → Pat} (h : SimM c1 f g m tm) (hg : ∀ d, SimG c2 f g (gt d) (tg d) f2) (h2 : ∀ s, SimB c3 (f2 s) g r (u s) fl pat) (hc : c1 + c2 + c3 ≤ c) : SimB c f g (sSeq (sAsg m gt) r) (tb (tb tm tg) u) fl pat :=
  sb_seq (p1 := f2) (c1 := c1 + c2) (fun k r P E q l p => wx_B ((h k r _ E q (by omega) p).imp (fun a r1 ⟨q1, p1⟩ => wx_B ((hg a (k + c1) r1 P E q1 (by omega) p1).imp (fun _ _ ⟨s, q2, p2⟩ => ⟨s, rfl, q2.up (by omega), p2⟩) fun _ _ _ ⟨a, b⟩ => ⟨a.up (by omega), b⟩)) fun _ _ _ ⟨a, b⟩ => ⟨a.up (by omega), b⟩)) h2 hc
/-! several at once -/
def tP2 (tm : TM (List D)) (u : D → D → TM τ) : TM τ := tb tm fun l => match l with
  | [d, e] => u d e
  | _ => tBad
def tP3 (tm : TM (List D)) (u : D → D → D → TM τ) : TM τ := tb tm fun l => match l with
  | [d, e, h] => u d e h
  | _ => tBad
theorem set_run {i : Nat} {d : D} {r : List Ent} {Q : Unit → List Ent → Prop} {E : Str → Option (Str × D) → List Ent → Prop} (h : i < r.length) (q : Q () (r.set i (.val d))) : Wx (setv i d) r Q E := wx_of (a := ()) (r' := r.set i (.val d)) (by unfold setv; rw [if_pos h]) q
theorem setc_run {i : Nat} {d : List D} {k : CK} {r : List Ent} {Q : Unit → List Ent → Prop} {E : Str → Option (Str × D) → List Ent → Prop} (h : i < r.length) (q : Q () (r.set i (.cel k d))) : Wx (setc i k d) r Q E := wx_of (a := ()) (r' := r.set i (.cel k d)) (by unfold setc; rw [if_pos h]) q
theorem seq_nx {m : M Fl} {a : M Fl} {r : List Ent} {Q : Fl → List Ent → Prop} {E : Str → Option (Str × D) → List Ent → Prop} (h : Wx a r (fun x r => x = .nx ∧ Wx m r Q E) E) : Wx (sSeq a m) r Q E := wx_B (h.imp (fun x r ⟨e, z⟩ => by subst e; exact z) fun _ _ _ z => z)
theorem sb_par2 {i j : Nat} {m : M (List D)} {tm : TM (List D)} {r : M Fl} {u : D → D → TM τ} (f2 : D → D → Pat) (h : SimM c1 f g m tm) (h0 : ∀ js ds, i < (f js ds).length ∧ j < (f js ds).length) (h1 : ∀ d e js ds, ((f js ds).set i (.val d)).set j (.val e) = f2 d e js ds) (h2 : ∀ d e, SimB c2 (f2 d e) g r (u d e) fl pat) (hc : c1 + c2 ≤ c) :
    SimB c f g (sSeq (sPar2 i j m) r) (tP2 tm u) fl pat := fun k r P E q l p => by
  refine seq_nx (wx_B ((h k r _ E q (by omega) p).imp (fun a r1 ⟨⟨js, ds, w, e⟩, p1⟩ => ?_) fun _ _ _ ⟨a, b⟩ => ⟨a.up (by omega), b⟩))
  match a, p1 with
  | [d, e'], p1 =>
    subst e
    refine wx_B (set_run (h0 js ds).1 (wx_B (set_run (by rw [List.length_set]; exact (h0 js ds).2) ⟨rfl, ?_⟩)))
    rw [h1]
    exact (h2 d e' (k + c1) _ P E ⟨js, ds, w, rfl⟩ (by omega) p1).imp (fun _ _ ⟨a, b, q, z⟩ => ⟨a, b, q.up (by omega), z⟩) fun _ _ _ ⟨a, b⟩ => ⟨a.up (by omega), b⟩
theorem sb_par3 {i j n : Nat} {m : M (List D)} {tm : TM (List D)} {r : M Fl} {u : D → D → D → TM τ} (f2 : D → D → D → Pat) (h : SimM c1 f g m tm) (h0 : ∀ js ds, i < (f js ds).length ∧ j < (f js ds).length ∧ n < (f js ds).length) (h1 : ∀ d e x js ds, (((f js ds).set i (.val d)).set j (.val e)).set n (.val x) = f2 d e x js ds) (h2 : ∀ d e x, SimB c2 (f2 d e x) g r (u d e x) fl pat) (hc : c1 + c2 ≤ c) :
    SimB c f g (sSeq (sPar3 i j n m) r) (tP3 tm u) fl pat := fun k r P E q l p => by
  refine seq_nx (wx_B ((h k r _ E q (by omega) p).imp (fun a r1 ⟨⟨js, ds, w, e⟩, p1⟩ => ?_) fun _ _ _ ⟨a, b⟩ => ⟨a.up (by omega), b⟩))
  match a, p1 with
  | [d, e', x], p1 =>
    subst e
    refine wx_B (set_run (h0 js ds).1 (wx_B (set_run (by rw [List.length_set]; exact (h0 js ds).2.1) (wx_B (set_run (by rw [List.length_set, List.length_set]; exact (h0 js ds).2.2) ⟨rfl, ?_⟩)))))
    rw [h1]
    exact (h2 d e' x (k + c1) _ P E ⟨js, ds, w, rfl⟩ (by omega) p1).imp (fun _ _ ⟨a, b, q, z⟩ => ⟨a, b, q.up (by omega), z⟩) fun _ _ _ ⟨a, b⟩ => ⟨a.up (by omega), b⟩
/-- one after the other, lists that are new beside values -/
def SimP (c : Nat) (f g : Pat) (m : M (List PIt)) (t : TM σ) (is : σ → List PIt) : Prop := ∀ (k : Nat) (r : List Ent) (P : σ → Prop) (E : XP), Got f k r → k + c ≤ big → t P E →
  Wx m r (fun l r => ∃ s, l = is s ∧ Got f (k + c) r ∧ P s) fun x p r => Got g (k + c) r ∧ E x p
theorem sp'_nil : SimP c f g (mP []) (tp ()) (fun _ => []) := fun k r P E q l p => ⟨(), rfl, q.up (by omega), p⟩
theorem sp'_val {a : M D} {ta : TM D} {m : M (List PIt)} {tm : TM σ} {is : σ → List PIt} (h1 : SimM c1 f g a ta) (h2 : SimP c2 f g m tm is) (hc : c1 + c2 ≤ c) : SimP c f g (pVal a m) (tb ta fun d => tb tm fun s => tp (d, s)) (fun p => .val p.1 :: is p.2) := fun k r P E q l p =>
  wx_B ((h1 k r _ E q (by omega) p).imp (fun d r1 ⟨q1, p1⟩ => wx_B ((h2 (k + c1) r1 _ E q1 (by omega) p1).imp (fun l r2 ⟨s, e, q2, p2⟩ => ⟨(d, s), by rw [e], q2.up (by omega), p2⟩) fun _ _ _ ⟨a, b⟩ => ⟨a.up (by omega), b⟩)) fun _ _ _ ⟨a, b⟩ => ⟨a.up (by omega), b⟩)
theorem sp'_new {a : M (List D)} {ta : TM (List D)} {m : M (List PIt)} {tm : TM σ} {is : σ → List PIt} (h1 : SimM c1 f g a ta) (h2 : SimP c2 f g m tm is) (hc : c1 + c2 ≤ c) : SimP c f g (pNew a m) (tb ta fun d => tb tm fun s => tp (d, s)) (fun p => .new p.1 :: is p.2) := fun k r P E q l p =>
  wx_B ((h1 k r _ E q (by omega) p).imp (fun d r1 ⟨q1, p1⟩ => wx_B ((h2 (k + c1) r1 _ E q1 (by omega) p1).imp (fun l r2 ⟨s, e, q2, p2⟩ => ⟨(d, s), by rw [e], q2.up (by omega), p2⟩) fun _ _ _ ⟨a, b⟩ => ⟨a.up (by omega), b⟩)) fun _ _ _ ⟨a, b⟩ => ⟨a.up (by omega), b⟩)
theorem sb_parN {js : List Nat} {m : M (List PIt)} {tm : TM σ} {is : σ → List PIt} {r : M Fl} {u : σ → TM τ} (f2 : σ → Pat) (h : SimP c1 f g m tm is) (h1 : ∀ s j ds, setIts js (is s) (f j ds) = .ok () (f2 s j ds)) (h2 : ∀ s, SimB c2 (f2 s) g r (u s) fl pat) (hc : c1 + c2 ≤ c) :
    SimB c f g (sSeq (sParN js m) r) (tb tm u) fl pat := fun k r P E q l p => by
  refine seq_nx (wx_B ((h k r _ E q (by omega) p).imp (fun a r1 ⟨s, e2, ⟨j, ds, w, e⟩, p1⟩ => ?_) fun _ _ _ ⟨a, b⟩ => ⟨a.up (by omega), b⟩))
  subst e e2
  refine wx_B (wx_of (h1 s j ds) ⟨rfl, ?_⟩)
  exact (h2 s (k + c1) _ P E ⟨j, ds, w, rfl⟩ (by omega) p1).imp (fun _ _ ⟨a, b, q, z⟩ => ⟨a, b, q.up (by omega), z⟩) fun _ _ _ ⟨a, b⟩ => ⟨a.up (by omega), b⟩
end
section
variable {α β τ σ υ : Type} {f g : Pat} {c c1 c2 c3 c4 : Nat} {fl : τ → Fl → Prop} {pat : τ → Pat} {t : TM τ}
theorem Wx.up {k c c' : Nat} {f g : Pat} {α : Type} {m : M α} {r : List Ent} {Q : α → List Ent → Prop} {E : Str → Option (Str × D) → List Ent → Prop} {Q' : α → List Ent → Prop} {E' : XP} (h : Wx m r Q fun x p r => Got g (k + c) r ∧ E' x p) (q : ∀ a r, Q a r → Q' a r) (e : c ≤ c') : Wx m r Q' fun x p r => Got g (k + c') r ∧ E' x p :=
  h.imp q fun _ _ _ ⟨a, b⟩ => ⟨a.up (by omega), b⟩
/-! loops -/
def flC (_ : σ) (x : Fl) : Prop := x = .nx ∨ x = .co
def flX (s : Lx σ) (x : Fl) : Prop := match s with
  | .go _ => x = .nx ∨ x = .co
  | .br _ => x = .br
  | .rt d => x = .rt d
def patX (F : σ → Pat) (G : Pat) : Lx σ → Pat
  | .go s => F s
  | .br s => F s
  | .rt _ => G
theorem for_run {gt : D → M Unit} {b : M Fl} {tg : D → TM υ} {body : σ → υ → TM σ} {F : σ → Pat} {f1 : σ → υ → Pat} (hg : ∀ s d, SimG c1 (F s) g (gt d) (tg d) (f1 s)) (hb : ∀ s u, SimB c2 (f1 s u) g b (body s u) flC F) : ∀ (ds : List D) (s : σ) (k : Nat) (r : List Ent) (P : σ → Prop) (E : XP), Got (F s) k r → k + (c1 + c2) * ds.length ≤ big →
    forL (fun d s => tb (tg d) (body s)) ds s P E → Wx (forD gt b ds) r (fun x r => x = .nx ∧ ∃ s, Got (F s) (k + (c1 + c2) * ds.length) r ∧ P s) fun x p r => Got g (k + (c1 + c2) * ds.length) r ∧ E x p
  | [], s, k, r, P, E, q, l, p => ⟨rfl, s, q, p⟩
  | d :: ds, s, k, r, P, E, q, l, p => by
    rw [List.length_cons, Nat.mul_succ] at l ⊢
    generalize hn : (c1 + c2) * ds.length = n at l ⊢
    refine wx_B ((hg s d k r _ E q (by omega) p).imp (fun _ r1 ⟨u, q1, p1⟩ => wx_B ((hb s u (k + c1) r1 _ E q1 (by omega) p1).imp (fun x r2 ⟨s2, e, q2, p2⟩ => ?_) fun _ _ _ ⟨a, b⟩ => ⟨a.up (by omega), b⟩)) fun _ _ _ ⟨a, b⟩ => ⟨a.up (by omega), b⟩)
    have := for_run hg hb ds s2 (k + (c1 + c2)) r2 P E (q2.up (by omega)) (by omega) p2
    rw [hn] at this
    have e3 : k + (c1 + c2) + n = k + (n + (c1 + c2)) := by omega
    rw [e3] at this
    rcases e with rfl | rfl <;> exact this
theorem sb_for {it : M (List D)} {ti : TM (List D)} {gt : D → M Unit} {b m : M Fl} {tg : D → TM υ} {body : σ → υ → TM σ} {u : σ → TM τ} (F : σ → Pat) (f1 : σ → υ → Pat) (s0 : σ) (hi : SimM c1 f g it ti) (hw : Wk f (F s0)) (hg : ∀ s d, SimG c2 (F s) g (gt d) (tg d) (f1 s)) (hb : ∀ s u, SimB c3 (f1 s u) g b (body s u) flC F)
    (h2 : ∀ s, SimB c4 (F s) g m (u s) fl pat) (hc : c1 + (c2 + c3) * most + c4 ≤ c) : SimB c f g (sSeq (sFor it gt b) m) (tb (forT ti s0 fun d s => tb (tg d) (body s)) u) fl pat := fun k r P E q l p => by
  refine seq_nx (wx_B ((hi k r _ E q (by omega) p).imp (fun ds r1 ⟨q1, p0, p1⟩ => ?_) fun _ _ _ ⟨a, b⟩ => ⟨a.up (by omega), b⟩))
  have hl : (c2 + c3) * ds.length ≤ (c2 + c3) * most := Nat.mul_le_mul_left _ p0
  generalize hn : (c2 + c3) * most = n at hl hc
  refine (for_run hg hb ds s0 (k + c1) r1 _ E (q1.wk hw) (by omega) p1).imp (fun x r2 ⟨e, s, q2, p2⟩ => ⟨e, ?_⟩) fun _ _ _ ⟨a, b⟩ => ⟨a.up (by omega), b⟩
  exact (h2 s (k + c1 + n) r2 P E (q2.up (by omega)) (by omega) p2).imp (fun _ _ ⟨a, b, q, z⟩ => ⟨a, b, q.up (by omega), z⟩) fun _ _ _ ⟨a, b⟩ => ⟨a.up (by omega), b⟩
theorem forX_run {gt : D → M Unit} {b : M Fl} {tg : D → TM υ} {body : σ → υ → TM (Lx σ)} {F : σ → Pat} {f1 : σ → υ → Pat} (hg : ∀ s d, SimG c1 (F s) g (gt d) (tg d) (f1 s)) (hb : ∀ s u, SimB c2 (f1 s u) g b (body s u) flX (patX F g)) : ∀ (ds : List D) (s : σ) (k : Nat) (r : List Ent) (P : Lx σ → Prop) (E : XP), Got (F s) k r → k + (c1 + c2) * ds.length ≤ big →
    forXL (fun d s => tb (tg d) (body s)) ds s P E → Wx (forD gt b ds) r (fun x r => (x = .nx ∧ ∃ s, Got (F s) (k + (c1 + c2) * ds.length) r ∧ P (.go s)) ∨ ∃ d, x = .rt d ∧ Got g (k + (c1 + c2) * ds.length) r ∧ P (.rt d)) fun x p r => Got g (k + (c1 + c2) * ds.length) r ∧ E x p
  | [], s, k, r, P, E, q, l, p => .inl ⟨rfl, s, q, p⟩
  | d :: ds, s, k, r, P, E, q, l, p => by
    rw [List.length_cons, Nat.mul_succ] at l ⊢
    generalize hn : (c1 + c2) * ds.length = n at l ⊢
    refine wx_B ((hg s d k r _ E q (by omega) p).imp (fun _ r1 ⟨u, q1, p1⟩ => wx_B ((hb s u (k + c1) r1 _ E q1 (by omega) p1).imp (fun x r2 ⟨s2, e, q2, p2⟩ => ?_) fun _ _ _ ⟨a, b⟩ => ⟨a.up (by omega), b⟩)) fun _ _ _ ⟨a, b⟩ => ⟨a.up (by omega), b⟩)
    cases s2 with
    | go s2 =>
      have := forX_run hg hb ds s2 (k + (c1 + c2)) r2 P E (q2.up (by omega)) (by omega) p2
      rw [hn] at this
      have e3 : k + (c1 + c2) + n = k + (n + (c1 + c2)) := by omega
      rw [e3] at this
      rcases e with rfl | rfl <;> exact this
    | br s2 =>
      cases e
      exact .inl ⟨rfl, s2, q2.up (by omega), p2⟩
    | rt d =>
      cases e
      exact .inr ⟨d, rfl, q2.up (by omega), p2⟩
theorem sb_forX {it : M (List D)} {ti : TM (List D)} {gt : D → M Unit} {b m : M Fl} {tg : D → TM υ} {body : σ → υ → TM (Lx σ)} {u : σ → TM τ} {w : D → TM τ} (F : σ → Pat) (f1 : σ → υ → Pat) (s0 : σ) (ro : D → τ) (hr1 : ∀ d, w d = tp (ro d)) (hr2 : ∀ d, fl (ro d) (.rt d)) (hr3 : ∀ d, Wk g (pat (ro d))) (hi : SimM c1 f g it ti) (hw : Wk f (F s0)) (hg : ∀ s d, SimG c2 (F s) g (gt d) (tg d) (f1 s)) (hb : ∀ s u, SimB c3 (f1 s u) g b (body s u) flX (patX F g))
    (h2 : ∀ s, SimB c4 (F s) g m (u s) fl pat) (hc : c1 + (c2 + c3) * most + c4 ≤ c) : SimB c f g (sSeq (sFor it gt b) m) (tb (forX ti s0 fun d s => tb (tg d) (body s)) fun o => tFin o w u) fl pat := fun k r P E q l p => by
  refine wx_B (wx_B ((hi k r _ E q (by omega) p).imp (fun ds r1 ⟨q1, p0, p1⟩ => ?_) fun _ _ _ ⟨a, b⟩ => ⟨a.up (by omega), b⟩))
  have hl : (c2 + c3) * ds.length ≤ (c2 + c3) * most := Nat.mul_le_mul_left _ p0
  generalize hn : (c2 + c3) * most = n at hl hc
  refine (forX_run hg hb ds s0 (k + c1) r1 _ E (q1.wk hw) (by omega) p1).imp (fun x r2 z => ?_) fun _ _ _ ⟨a, b⟩ => ⟨a.up (by omega), b⟩
  rcases z with ⟨rfl, s, q2, p2⟩ | ⟨d, rfl, q2, p2⟩
  · exact (h2 s (k + c1 + n) r2 P E (q2.up (by omega)) (by omega) p2).imp (fun _ _ ⟨a, b, q, z⟩ => ⟨a, b, q.up (by omega), z⟩) fun _ _ _ ⟨a, b⟩ => ⟨a.up (by omega), b⟩
  · have p2 : w d P E := p2
    rw [hr1] at p2
    exact ⟨ro d, hr2 d, (q2.up (by omega)).wk (hr3 d), p2⟩
theorem while_run {cc : M Bool} {b : M Fl} {tc : σ → TM Bool} {body : σ → TM σ} {F : σ → Pat} (hcn : ∀ s, SimM c1 (F s) g cc (tc s)) (hb : ∀ s, SimB c2 (F s) g b (body s) flC F) : ∀ (n : Nat) (s : σ) (k : Nat) (r : List Ent) (P : σ → Prop) (E : XP), Got (F s) k r → k + (c1 + c2) * n ≤ big →
    whileT tc body n s P E → Wx (whileD cc b n) r (fun x r => x = .nx ∧ ∃ s, Got (F s) (k + (c1 + c2) * n) r ∧ P s) fun x p r => Got g (k + (c1 + c2) * n) r ∧ E x p
  | 0, s, k, r, P, E, q, l, p => p.elim
  | n + 1, s, k, r, P, E, q, l, p => by
    rw [Nat.mul_succ] at l ⊢
    generalize hn : (c1 + c2) * n = N at l ⊢
    refine wx_B ((hcn s k r _ E q (by omega) p).imp (fun x r1 ⟨q1, p1⟩ => ?_) fun _ _ _ ⟨a, b⟩ => ⟨a.up (by omega), b⟩)
    cases x with
    | false => exact ⟨rfl, s, q1.up (by omega), p1⟩
    | true =>
      refine wx_B ((hb s (k + c1) r1 _ E q1 (by omega) p1).imp (fun x r2 ⟨s2, e, q2, p2⟩ => ?_) fun _ _ _ ⟨a, b⟩ => ⟨a.up (by omega), b⟩)
      have := while_run hcn hb n s2 (k + (c1 + c2)) r2 P E (q2.up (by omega)) (by omega) p2
      rw [hn] at this
      have e3 : k + (c1 + c2) + N = k + (N + (c1 + c2)) := by omega
      rw [e3] at this
      rcases e with rfl | rfl <;> exact this
theorem sb_while {n : Nat} {cc : M Bool} {b m : M Fl} {tc : σ → TM Bool} {body : σ → TM σ} {u : σ → TM τ} (F : σ → Pat) (s0 : σ) (hw : Wk f (F s0)) (hcn : ∀ s, SimM c1 (F s) g cc (tc s)) (hb : ∀ s, SimB c2 (F s) g b (body s) flC F) (h2 : ∀ s, SimB c3 (F s) g m (u s) fl pat) (hc : (c1 + c2) * n + c3 ≤ c) :
    SimB c f g (sSeq (whileD cc b n) m) (tb (whileT tc body n s0) u) fl pat := fun k r P E q l p => by
  generalize hn : (c1 + c2) * n = N at hc
  refine seq_nx ((while_run hcn hb n s0 k r _ E (q.wk hw) (by omega) p).imp (fun x r2 ⟨e, s, q2, p2⟩ => ⟨e, ?_⟩) fun _ _ _ ⟨a, b⟩ => ⟨a.up (by omega), b⟩)
  exact (h2 s (k + N) r2 P E (q2.up (by omega)) (by omega) p2).imp (fun _ _ ⟨a, b, q, z⟩ => ⟨a, b, q.up (by omega), z⟩) fun _ _ _ ⟨a, b⟩ => ⟨a.up (by omega), b⟩
theorem whileX_run {cc : M Bool} {b : M Fl} {tc : σ → TM Bool} {body : σ → TM (Lx σ)} {F : σ → Pat} (hcn : ∀ s, SimM c1 (F s) g cc (tc s)) (hb : ∀ s, SimB c2 (F s) g b (body s) flX (patX F g)) : ∀ (n : Nat) (s : σ) (k : Nat) (r : List Ent) (P : Lx σ → Prop) (E : XP), Got (F s) k r → k + (c1 + c2) * n ≤ big →
    whileX tc body n s P E → Wx (whileD cc b n) r (fun x r => (x = .nx ∧ ∃ s, Got (F s) (k + (c1 + c2) * n) r ∧ P (.go s)) ∨ ∃ d, x = .rt d ∧ Got g (k + (c1 + c2) * n) r ∧ P (.rt d)) fun x p r => Got g (k + (c1 + c2) * n) r ∧ E x p
  | 0, s, k, r, P, E, q, l, p => p.elim
  | n + 1, s, k, r, P, E, q, l, p => by
    rw [Nat.mul_succ] at l ⊢
    generalize hn : (c1 + c2) * n = N at l ⊢
    refine wx_B ((hcn s k r _ E q (by omega) p).imp (fun x r1 ⟨q1, p1⟩ => ?_) fun _ _ _ ⟨a, b⟩ => ⟨a.up (by omega), b⟩)
    cases x with
    | false => exact .inl ⟨rfl, s, q1.up (by omega), p1⟩
    | true =>
      refine wx_B ((hb s (k + c1) r1 _ E q1 (by omega) p1).imp (fun x r2 ⟨s2, e, q2, p2⟩ => ?_) fun _ _ _ ⟨a, b⟩ => ⟨a.up (by omega), b⟩)
      cases s2 with
      | go s2 =>
        have := whileX_run hcn hb n s2 (k + (c1 + c2)) r2 P E (q2.up (by omega)) (by omega) p2
        rw [hn] at this
        have e3 : k + (c1 + c2) + N = k + (N + (c1 + c2)) := by omega
        rw [e3] at this
        rcases e with rfl | rfl <;> exact this
      | br s2 =>
        cases e
        exact .inl ⟨rfl, s2, q2.up (by omega), p2⟩
      | rt d =>
        cases e
        exact .inr ⟨d, rfl, q2.up (by omega), p2⟩
theorem sb_whileX {n : Nat} {cc : M Bool} {b m : M Fl} {tc : σ → TM Bool} {body : σ → TM (Lx σ)} {u : σ → TM τ} {w : D → TM τ} (F : σ → Pat) (s0 : σ) (ro : D → τ) (hr1 : ∀ d, w d = tp (ro d)) (hr2 : ∀ d, fl (ro d) (.rt d)) (hr3 : ∀ d, Wk g (pat (ro d))) (hw : Wk f (F s0)) (hcn : ∀ s, SimM c1 (F s) g cc (tc s)) (hb : ∀ s, SimB c2 (F s) g b (body s) flX (patX F g)) (h2 : ∀ s, SimB c3 (F s) g m (u s) fl pat) (hc : (c1 + c2) * n + c3 ≤ c) :
    SimB c f g (sSeq (whileD cc b n) m) (tb (whileX tc body n s0) fun o => tFin o w u) fl pat := fun k r P E q l p => by
  generalize hn : (c1 + c2) * n = N at hc
  refine wx_B ((whileX_run hcn hb n s0 k r _ E (q.wk hw) (by omega) p).imp (fun x r2 z => ?_) fun _ _ _ ⟨a, b⟩ => ⟨a.up (by omega), b⟩)
  rcases z with ⟨rfl, s, q2, p2⟩ | ⟨d, rfl, q2, p2⟩
  · exact (h2 s (k + N) r2 P E (q2.up (by omega)) (by omega) p2).imp (fun _ _ ⟨a, b, q, z⟩ => ⟨a, b, q.up (by omega), z⟩) fun _ _ _ ⟨a, b⟩ => ⟨a.up (by omega), b⟩
  · have p2 : w d P E := p2
    rw [hr1] at p2
    exact ⟨ro d, hr2 d, (q2.up (by omega)).wk (hr3 d), p2⟩
/-! comprehensions -/
theorem comp_run {vs : List Nat} {gt : D → M Unit} {tt : M Bool} {e : M D} {tg : D → TM υ} {ut : υ → TM Bool} {ue : υ → TM D} {fw : Pat} {f1 : υ → Pat} (hg : ∀ d, SimG c1 fw anyP (gt d) (tg d) f1) (ht : ∀ u, SimM c2 (f1 u) anyP tt (ut u)) (he : ∀ u, SimM c3 (f1 u) anyP e (ue u)) (hb : ∀ u js ds, ∃ js', wipeE (f1 u js ds) vs = fw js' ds) :
    ∀ (ds acc : List D) (k : Nat) (r : List Ent) (P : List D → Prop), Got fw k r → k + (c1 + c2 + c3) * ds.length ≤ big → acc.length + ds.length ≤ most → compL tg ut ue ds P (fun _ _ => False) → Wx (compD vs gt tt e ds acc) r (fun l r => Got fw (k + (c1 + c2 + c3) * ds.length) r ∧ ∃ l', l = acc ++ l' ∧ P l') fun _ _ _ => False
  | [], acc, k, r, P, q, l, hl, p => ⟨q, [], (List.append_nil _).symm, p⟩
  | d :: ds, acc, k, r, P, q, l, hl, p => by
    rw [List.length_cons] at hl
    rw [List.length_cons, Nat.mul_succ] at l ⊢
    generalize hn : (c1 + c2 + c3) * ds.length = n at l ⊢
    have nx : ∀ {α : Type} {m : M α} {r : List Ent} {Q Q' : α → List Ent → Prop} {E : Str → Option (Str × D) → List Ent → Prop}, Wx m r Q E → (∀ c p r, ¬ E c p r) → (∀ a r, Q a r → Q' a r) → Wx (noX m) r Q' fun _ _ _ => False := fun {α m r Q Q' E} h hE hQ => by
      unfold Wx at *
      unfold noX
      cases e : m r with
      | ok a o => rw [e] at h; exact hQ _ _ h
      | exc c p o => rw [e] at h; exact (hE _ _ _ h).elim
      | bad => rw [e] at h; exact h.elim
    refine wx_B (nx (hg d k r _ (fun _ _ => False) q (by omega) p) (fun _ _ _ z => z.2) fun _ r1 ⟨u, q1, p1⟩ => ?_)
    refine wx_B (nx (ht u (k + c1) r1 _ (fun _ _ => False) q1 (by omega) p1) (fun _ _ _ z => z.2) fun kk r2 ⟨q2, p2⟩ => ?_)
    cases kk with
    | true =>
      refine wx_B (nx (he u (k + c1 + c2) r2 _ (fun _ _ => False) q2 (by omega) p2) (fun _ _ _ z => z.2) fun y r3 ⟨⟨js, w, hw, e3⟩, p3⟩ => ?_)
      obtain ⟨js', e4⟩ := hb u js w
      have := comp_run hg ht he hb ds (acc ++ [y]) (k + (c1 + c2 + c3)) (wipeE r3 vs) _ ⟨js', w, hw.up (by omega), by rw [e3, e4]⟩ (by omega) (by rw [List.length_append, List.length_singleton]; omega) p3
      rw [hn] at this
      have e5 : k + (c1 + c2 + c3) + n = k + (n + (c1 + c2 + c3)) := by omega
      rw [e5] at this
      have h8 : decide (acc.length < most) = true := decide_eq_true (by omega)
      unfold Wx at this ⊢
      simp only [h8, if_true]
      cases e6 : compD vs gt tt e ds (acc ++ [y]) (wipeE r3 vs) with
      | ok a o =>
        rw [e6] at this
        obtain ⟨h1, l', e7, h2⟩ := this
        exact ⟨h1, y :: l', by rw [e7, List.append_assoc]; rfl, h2⟩
      | exc c p o => rw [e6] at this; exact this
      | bad => rw [e6] at this; exact this
    | false =>
      obtain ⟨js, w, hw, e3⟩ := q2
      obtain ⟨js', e4⟩ := hb u js w
      have := comp_run hg ht he hb ds acc (k + (c1 + c2 + c3)) (wipeE r2 vs) _ ⟨js', w, hw.up (by omega), by rw [e3, e4]⟩ (by omega) (by omega) p2
      rw [hn] at this
      have e5 : k + (c1 + c2 + c3) + n = k + (n + (c1 + c2 + c3)) := by omega
      rw [e5] at this
      unfold Wx at this ⊢
      exact this
theorem sm_comp {vs : List Nat} {it : M (List D)} {ti : TM (List D)} {gt : D → M Unit} {tt : M Bool} {e : M D} {tg : D → TM υ} {ut : υ → TM Bool} {ue : υ → TM D} (fw : Pat) (f1 : υ → Pat) (hi : SimM c1 f g it ti) (hg : ∀ d, SimG c2 fw anyP (gt d) (tg d) f1) (ht : ∀ u, SimM c3 (f1 u) anyP tt (ut u)) (he : ∀ u, SimM c4 (f1 u) anyP e (ue u))
    (hn : ∀ js ds, noCel vs (f js ds) = true) (h0 : ∀ js ds, wipeE (f js ds) vs = fw js ds) (hb : ∀ u js ds, ∃ js', wipeE (f1 u js ds) vs = fw js' ds) (hp : ∀ js0 ds0 js ds, ∃ js', putBack (f js0 ds0) (fw js ds) vs = f js' ds) (hc : c1 + (c2 + c3 + c4) * most ≤ c) : SimM c f g (lComp vs it gt tt e) (compT ti tg ut ue) := fun k r P E q l p => by
  refine wx_B ((hi k r _ E q (by omega) p).imp (fun ds r1 ⟨⟨js, w, hw, e1⟩, p0, p1⟩ => ?_) fun _ _ _ ⟨a, b⟩ => ⟨a.up (by omega), b⟩)
  have hl : (c2 + c3 + c4) * ds.length ≤ (c2 + c3 + c4) * most := Nat.mul_le_mul_left _ p0
  generalize hN : (c2 + c3 + c4) * most = n at hl hc
  subst e1
  have := comp_run (vs := vs) hg ht he hb ds [] (k + c1) (fw js w) P ⟨js, w, hw, rfl⟩ (by omega) (by simpa using p0) p1
  unfold Wx at this ⊢
  simp only [hn, if_true, h0]
  cases e6 : compD vs gt tt e ds [] (fw js w) with
  | ok a o =>
    rw [e6] at this
    obtain ⟨⟨js2, w2, hw2, e7⟩, l', e8, h2⟩ := this
    obtain ⟨js3, e9⟩ := hp js w js2 w2
    subst e7
    rw [List.nil_append] at e8
    subst e8
    exact ⟨⟨js3, w2, hw2.up (by omega), e9⟩, h2⟩
  | exc c p o => rw [e6] at this; exact this.elim
  | bad => rw [e6] at this; exact this.elim
/-! defs -/
theorem sf_def {n : Nat} {b : M Fl} {tF : List D → TM D} (h : ∀ (ds : List D) (P : D → Prop) (E : XP), tF ds P E → ∃ (f : Pat), (∀ js w, f js w = valsOf ds ++ List.replicate (n - ds.length) .no) ∧ ∃ t : TM D, t P E ∧ SimB 0 f anyP b t flR (fun _ => anyP)) : SimF0 (defF none false n b) tF := fun ds P E p => by
  obtain ⟨f, h1, t, h2, h3⟩ := h ds P E p
  have := h3 0 (f ⟨[], []⟩ w0) P E ⟨_, _, wel0, rfl⟩ (Nat.zero_le _) h2
  rw [h1] at this
  unfold Wx at this
  unfold WxF defF
  have lv : (valsOf ds).length = ds.length := List.length_map ..
  rw [lv]
  cases e : b (valsOf ds ++ List.replicate (n - ds.length) .no) with
  | ok fl r =>
    rw [e] at this
    obtain ⟨a, hf, _, z⟩ := this
    rcases hf with rfl | ⟨rfl, rfl⟩ <;> exact z
  | exc c p r => rw [e] at this; exact this.2
  | bad => rw [e] at this; exact this
theorem sf_defL {n : Nat} {b : M Fl} {tF : List D → TM D} (h : ∀ (ds : List D) (P : D → Prop) (E : XP), tF ds P E → ∃ (f : Pat), (∀ js w, f js w = valsOf ds ++ List.replicate (n - ds.length) .no) ∧ ∃ t : TM D, t P E ∧ SimB 0 f anyP b t flL (fun _ => anyP)) : SimF0 (defF none true n b) tF := fun ds P E p => by
  obtain ⟨f, h1, t, h2, h3⟩ := h ds P E p
  have := h3 0 (f ⟨[], []⟩ w0) P E ⟨_, _, wel0, rfl⟩ (Nat.zero_le _) h2
  rw [h1] at this
  unfold Wx at this
  unfold WxF defF
  have lv : (valsOf ds).length = ds.length := List.length_map ..
  rw [lv]
  cases e : b (valsOf ds ++ List.replicate (n - ds.length) .no) with
  | ok fl r =>
    rw [e] at this
    obtain ⟨a, ⟨es, rfl, rfl⟩, _, z⟩ := this
    exact z
  | exc c p r => rw [e] at this; exact this.2
  | bad => rw [e] at this; exact this
/-- a def with draws inside but no well of the caller's (law) -/
theorem sf_defW {n : Nat} {b : M Fl} {tF : List D → TM D} (hc : c ≤ big) (h : ∀ (ds : List D) (P : D → Prop) (E : XP), tF ds P E → ∃ (f : Pat), (∀ js w, f js w = valsOf ds ++ List.replicate (n - ds.length) .no) ∧ ∃ t : TM D, t P E ∧ SimB c f anyP b t flR (fun _ => anyP)) : SimF0 (defF none false n b) tF := fun ds P E p => by
  obtain ⟨f, h1, t, h2, h3⟩ := h ds P E p
  have := h3 0 (f ⟨[], []⟩ w0) P E ⟨_, _, wel0, rfl⟩ (by omega) h2
  rw [h1] at this
  unfold Wx at this
  unfold WxF defF
  have lv : (valsOf ds).length = ds.length := List.length_map ..
  rw [lv]
  cases e : b (valsOf ds ++ List.replicate (n - ds.length) .no) with
  | ok fl r =>
    rw [e] at this
    obtain ⟨a, hf, _, z⟩ := this
    rcases hf with rfl | ⟨rfl, rfl⟩ <;> exact z
  | exc c p r => rw [e] at this; exact this.2
  | bad => rw [e] at this; exact this
/-- a def that draws -/
theorem sf_defI {n i : Nat} {b : M Fl} {g : Pat} {tF : List D → TM D} (hg : ∀ js w, (g js w)[i]? = some (.cel .io w)) (h : ∀ (pre post : List D) (P : D → Prop) (E : XP), pre.length = i → tF (pre ++ post) P E → ∃ (f : Pat), (∀ js w, f js w = ioArgs pre w post ++ List.replicate (n - (pre.length + 1 + post.length)) .no) ∧ ∃ t : TM D, t P E ∧ SimB c f g b t flR (fun _ => g)) : SimFW c i (defF (some i) false n b) tF := fun k w pre post P E hi hw l p => by
  obtain ⟨f, h1, t, h2, h3⟩ := h pre post P E hi p
  have := h3 k (f ⟨[], []⟩ w) P E ⟨_, _, hw, rfl⟩ l h2
  rw [h1] at this
  unfold Wx at this
  unfold WxF defF
  have lv : (ioArgs pre w post).length = pre.length + 1 + post.length := by unfold ioArgs valsOf; simp; omega
  rw [lv]
  cases e : b (ioArgs pre w post ++ List.replicate (n - (pre.length + 1 + post.length)) .no) with
  | ok fl r =>
    rw [e] at this
    obtain ⟨a, hf, ⟨js, w', hw', rfl⟩, z⟩ := this
    simp only [outs, hg]
    rcases hf with rfl | ⟨rfl, rfl⟩ <;> exact ⟨⟨w', hw', rfl⟩, z⟩
  | exc c p r =>
    rw [e] at this
    obtain ⟨⟨js, w', hw', rfl⟩, z⟩ := this
    simp only [outs, hg]
    exact ⟨⟨w', hw', rfl⟩, z⟩
  | bad => rw [e] at this; exact this
theorem sf_defIL {n i : Nat} {b : M Fl} {g : Pat} {tF : List D → TM D} (hg : ∀ js w, (g js w)[i]? = some (.cel .io w)) (h : ∀ (pre post : List D) (P : D → Prop) (E : XP), pre.length = i → tF (pre ++ post) P E → ∃ (f : Pat), (∀ js w, f js w = ioArgs pre w post ++ List.replicate (n - (pre.length + 1 + post.length)) .no) ∧ ∃ t : TM D, t P E ∧ SimB c f g b t flL (fun _ => g)) : SimFW c i (defF (some i) true n b) tF := fun k w pre post P E hi hw l p => by
  obtain ⟨f, h1, t, h2, h3⟩ := h pre post P E hi p
  have := h3 k (f ⟨[], []⟩ w) P E ⟨_, _, hw, rfl⟩ l h2
  rw [h1] at this
  unfold Wx at this
  unfold WxF defF
  have lv : (ioArgs pre w post).length = pre.length + 1 + post.length := by unfold ioArgs valsOf; simp; omega
  rw [lv]
  cases e : b (ioArgs pre w post ++ List.replicate (n - (pre.length + 1 + post.length)) .no) with
  | ok fl r =>
    rw [e] at this
    obtain ⟨a, ⟨es, rfl, rfl⟩, ⟨js, w', hw', rfl⟩, z⟩ := this
    simp only [outs, hg]
    exact ⟨⟨w', hw', rfl⟩, z⟩
  | exc c p r =>
    rw [e] at this
    obtain ⟨⟨js, w', hw', rfl⟩, z⟩ := this
    simp only [outs, hg]
    exact ⟨⟨w', hw', rfl⟩, z⟩
  | bad => rw [e] at this; exact this
end
end FL
namespace FL
open PySem PySem.Spec L2
section
variable {α τ σ : Type} {f g : Pat} {c c1 c2 c3 : Nat} {fl : τ → Fl → Prop} {pat : τ → Pat} {t : TM τ}
theorem ret_seq {m : M D} {r : M Fl} : sSeq (sRet m) r = sRet m := by
  funext x
  unfold sSeq sRet mB mP
  cases m x <;> rfl
theorem retL_seq {m : M (List D)} {r : M Fl} : sSeq (sRetL m) r = sRetL m := by
  funext x
  unfold sSeq sRetL mB mP
  cases m x <;> rfl
theorem retC_run (i : Nat) (x : List Ent) : sRetC i x = .bad ∨ ∃ ds, sRetC i x = .ok (.rtL ds) x := by
  unfold sRetC
  split
  · exact .inr ⟨_, rfl⟩
  · exact .inl rfl
theorem retC_seq {i : Nat} {r : M Fl} : sSeq (sRetC i) r = sRetC i := by
  funext x
  unfold sSeq mB
  rcases retC_run i x with e | ⟨ds, e⟩ <;> simp only [e] <;> rfl
theorem rt_seq {d : D} {r : M Fl} : sSeq (mP (.rt d)) r = mP (.rt d) := rfl
theorem br_seq {r : M Fl} : sSeq (mP .br) r = mP .br := rfl
theorem co_seq {r : M Fl} : sSeq (mP .co) r = mP .co := rfl
theorem sb_eq {a m : M Fl} (e : sSeq a m = a) (h : SimB c f g a t fl pat) : SimB c f g (sSeq a m) t fl pat := by rw [e]; exact h
theorem sb_frzseq {j : Nat} {a m : M Fl} (h : SimB c f g (frz j (sSeq a m)) t fl pat) : SimB c f g (sSeq (frz j a) m) t fl pat := fun k r P E q l p => by
  have := h k r P E q l p
  unfold Wx frz sSeq mB at this
  unfold Wx sSeq mB frz
  cases e : r[j]? with
  | none => rw [e] at this; exact this
  | some en =>
    rw [e] at this
    cases en with
    | cel k ds => cases k <;> exact this
    | _ => exact this
variable {a b e : M D} {ta te : TM D} {tb' : TM D} {m : M (List D)} {tm : TM (List D)}
theorem sm_2z {op : D → D → Option D} (h1 : SimM 0 f g a ta) (h2 : SimM 0 f g b tb') : SimM 0 f g (x2 op a b) (t2 op ta tb') := sm_2 h1 h2 (Nat.le_refl 0)
theorem sm_andz (h1 : SimM 0 f g a ta) (h2 : SimM 0 f g b tb') : SimM 0 f g (xAnd a b) (tAnd ta tb') := sm_and h1 h2 (Nat.le_refl 0)
theorem sm_orz (h1 : SimM 0 f g a ta) (h2 : SimM 0 f g b tb') : SimM 0 f g (xOr a b) (tOr ta tb') := sm_or h1 h2 (Nat.le_refl 0)
theorem sm_ifz {k : M Bool} {tk : TM Bool} (h0 : SimM 0 f g k tk) (h1 : SimM 0 f g a ta) (h2 : SimM 0 f g b tb') : SimM 0 f g (xIf k a b) (tIf tk ta tb') := sm_if h0 h1 h2 (Nat.le_refl 0)
theorem sm_chainz {o o' : D → D → Option D} (h1 : SimM 0 f g a ta) (h2 : SimM 0 f g b tb') (h3 : SimM 0 f g e te) : SimM 0 f g (xChain o o' a b e) (tChain o o' ta tb' te) := sm_chain h1 h2 h3 (Nat.le_refl 0)
theorem sm_consz (h1 : SimM 0 f g a ta) (h2 : SimM 0 f g m tm) : SimM 0 f g (dCons a m) (tCons ta tm) := sm_cons h1 h2 (Nat.le_refl 0)
theorem sm_cutz {lo hi : M (Option Int)} {tl th : TM (Option Int)} (h1 : SimM 0 f g a ta) (h2 : SimM 0 f g lo tl) (h3 : SimM 0 f g hi th) : SimM 0 f g (xCut a lo hi) (tCut ta tl th) := sm_cut h1 h2 h3 (Nat.le_refl 0)
theorem sm_tAndz {p q : M Bool} {tp' tq : TM Bool} (h1 : SimM 0 f g p tp') (h2 : SimM 0 f g q tq) : SimM 0 f g (tAndM p q) (ttAnd tp' tq) := sm_tAnd h1 h2 (Nat.le_refl 0)
theorem sm_tOrz {p q : M Bool} {tp' tq : TM Bool} (h1 : SimM 0 f g p tp') (h2 : SimM 0 f g q tq) : SimM 0 f g (tOrM p q) (ttOr tp' tq) := sm_tOr h1 h2 (Nat.le_refl 0)
end
theorem sm_callPv {f g : Pat} {c np i : Nat} {v : Str} {d : D} {F : List Ent → R D} {tF : List D → TM D} {m : M (List D)} {tm : TM (List D)} (hv : ∀ js ds, (f js ds)[i]? = some (.val d)) (hx : Wk f g) (hF : SimF0 F tF) (hn : ∀ ds P E, tF ds P E → ds.length = np) (h : SimM c f g m tm) : SimM c f g (callP i v np F m) (tA (d = .dfn v) (tb tm tF)) := fun k r P E q l ⟨e, p⟩ =>
  sm_callP (fun js ds => by rw [hv, e]) hx hF hn h k r P E q l p
theorem lebig {c : Nat} (h : Nat.ble c (10 ^ 200) = true) : c ≤ big := Nat.le_trans (Nat.le_of_ble_eq_true h) (Nat.le_trans (Nat.pow_le_pow_left (show 10 ≤ 2 ^ 10 by decide) 200) (by rw [← Nat.pow_mul]; exact Nat.le_refl _))
theorem defF_out {fr : Bool} {n : Nat} {b : M Fl} {es o : List Ent} {d : D} (h : defF none fr n b es = .ok d o) : o = [] := by
  unfold defF at h
  cases e : b (es ++ List.replicate (n - es.length) .no) with
  | ok fl r =>
    rw [e] at h
    simp only [outs] at h
    cases fl <;> cases fr <;> cases h <;> rfl
  | exc c p r => rw [e] at h; simp only [outs] at h; cases h
  | bad => rw [e] at h; cases h
theorem plain_of {n : Nat} {b : M Fl} {t : D → TM D} (s : SimF0 (defF none false n b) (u1 t)) (h : ∀ ns : List Int, ns.length ≤ 63 → t (.scr (ns.map .int)) (fun d => d = .bl true) (fun _ _ => False)) : Plain (defF none false n b) := fun ns hl _ => by
  have := s [.scr (ns.map .int)] _ _ (h ns hl)
  unfold WxF at this
  cases e : defF none false n b (valsOf [.scr (ns.map .int)]) with
  | ok d o =>
    rw [e] at this
    have e2 := defF_out e
    subst this e2
    exact e
  | exc c p o => rw [e] at this; exact this.elim
  | bad => rw [e] at this; exact this.elim
theorem u0_inv {t : TM D} {P : D → Prop} {E : XP} : ∀ {ds : List D}, u0 t ds P E → ds = [] ∧ t  P E
  | [], p => ⟨rfl, p⟩
  | _ :: _, p => p.elim
theorem u0_len {t : TM D} : ∀ (ds : List D) (P : D → Prop) (E : XP), u0 t ds P E → ds.length = 0 := fun ds P E p => by
  obtain ⟨rfl, p⟩ := u0_inv p
  rfl
theorem u0_len' {t : TM D} : ∀ (ds : List D) (P : D → Prop) (E : XP), u0 t ds P E → ds.length + 1 = 1 := fun ds P E p => by
  rw [u0_len ds P E p]
theorem sf0 {n : Nat} {B : M Fl} {t : TM D} (f : Pat) (hf : ∀  js w, f  js w = [] ++ List.replicate (n - 0) .no) (h : SimB 0 f anyP B (t) flR (fun _ => anyP)) : SimF0 (defF none false n B) (u0 t) := sf_def fun ds P E p => by
  obtain ⟨rfl, p⟩ := u0_inv p
  exact ⟨f, fun js w => hf  js w, _, p, h ⟩
theorem sfL0 {n : Nat} {B : M Fl} {t : TM D} (f : Pat) (hf : ∀  js w, f  js w = [] ++ List.replicate (n - 0) .no) (h : SimB 0 f anyP B (t) flL (fun _ => anyP)) : SimF0 (defF none true n B) (u0 t) := sf_defL fun ds P E p => by
  obtain ⟨rfl, p⟩ := u0_inv p
  exact ⟨f, fun js w => hf  js w, _, p, h ⟩
theorem sfI0_0 {n cc : Nat} {B : M Fl} {g : Pat} {t : TM D} (hg : ∀ js w, (g js w)[0]? = some (.cel .io w)) (f : Pat) (hf : ∀  js w, f  js w = [.cel .io w] ++ List.replicate (n - 1) .no) (h : SimB cc f g B (t) flR (fun _ => g)) : SimFW cc 0 (defF (some 0) false n B) (u0 t) := sf_defI hg fun pre post P E hi p => by
  obtain ⟨e, z⟩ := u0_inv p
  cases pre with
  | cons _ _ => cases hi
  | nil =>
    cases (show post = _ from e)
    exact ⟨f, fun js w => hf  js w, _, p, h ⟩
theorem sfIL0_0 {n cc : Nat} {B : M Fl} {g : Pat} {t : TM D} (hg : ∀ js w, (g js w)[0]? = some (.cel .io w)) (f : Pat) (hf : ∀  js w, f  js w = [.cel .io w] ++ List.replicate (n - 1) .no) (h : SimB cc f g B (t) flL (fun _ => g)) : SimFW cc 0 (defF (some 0) true n B) (u0 t) := sf_defIL hg fun pre post P E hi p => by
  obtain ⟨e, z⟩ := u0_inv p
  cases pre with
  | cons _ _ => cases hi
  | nil =>
    cases (show post = _ from e)
    exact ⟨f, fun js w => hf  js w, _, p, h ⟩
theorem u1_inv {t : D → TM D} {P : D → Prop} {E : XP} : ∀ {ds : List D}, u1 t ds P E → ∃ y1, ds = [y1] ∧ t y1 P E
  | [y1], p => ⟨y1, rfl, p⟩
  | [], p => p.elim
  | _ :: _ :: _, p => p.elim
theorem u1_len {t : D → TM D} : ∀ (ds : List D) (P : D → Prop) (E : XP), u1 t ds P E → ds.length = 1 := fun ds P E p => by
  obtain ⟨y1, rfl, p⟩ := u1_inv p
  rfl
theorem u1_len' {t : D → TM D} : ∀ (ds : List D) (P : D → Prop) (E : XP), u1 t ds P E → ds.length + 1 = 2 := fun ds P E p => by
  rw [u1_len ds P E p]
theorem sf1 {n : Nat} {B : M Fl} {t : D → TM D} (f : D → Pat) (hf : ∀ y1 js w, f y1 js w = [.val y1] ++ List.replicate (n - 1) .no) (h : ∀ y1, SimB 0 (f y1) anyP B (t y1) flR (fun _ => anyP)) : SimF0 (defF none false n B) (u1 t) := sf_def fun ds P E p => by
  obtain ⟨y1, rfl, p⟩ := u1_inv p
  exact ⟨f y1, fun js w => hf y1 js w, (t y1), p, h y1⟩
theorem sfL1 {n : Nat} {B : M Fl} {t : D → TM D} (f : D → Pat) (hf : ∀ y1 js w, f y1 js w = [.val y1] ++ List.replicate (n - 1) .no) (h : ∀ y1, SimB 0 (f y1) anyP B (t y1) flL (fun _ => anyP)) : SimF0 (defF none true n B) (u1 t) := sf_defL fun ds P E p => by
  obtain ⟨y1, rfl, p⟩ := u1_inv p
  exact ⟨f y1, fun js w => hf y1 js w, (t y1), p, h y1⟩
theorem sfW1 {n cc : Nat} {B : M Fl} {t : D → TM D} (f : D → Pat) (hf : ∀ y1 js w, f y1 js w = [.val y1] ++ List.replicate (n - 1) .no) (hc : cc ≤ big) (h : ∀ y1, SimB cc (f y1) anyP B (t y1) flR (fun _ => anyP)) : SimF0 (defF none false n B) (u1 t) := sf_defW (c := cc) hc fun ds P E p => by
  obtain ⟨y1, rfl, p⟩ := u1_inv p
  exact ⟨f y1, fun js w => hf y1 js w, (t y1), p, h y1⟩
theorem sfI1_0 {n cc : Nat} {B : M Fl} {g : Pat} {t : D → TM D} (hg : ∀ js w, (g js w)[0]? = some (.cel .io w)) (f : D → Pat) (hf : ∀ y1 js w, f y1 js w = [.cel .io w, .val y1] ++ List.replicate (n - 2) .no) (h : ∀ y1, SimB cc (f y1) g B (t y1) flR (fun _ => g)) : SimFW cc 0 (defF (some 0) false n B) (u1 t) := sf_defI hg fun pre post P E hi p => by
  obtain ⟨y1, e, z⟩ := u1_inv p
  cases pre with
  | cons _ _ => cases hi
  | nil =>
    cases (show post = _ from e)
    exact ⟨f y1, fun js w => hf y1 js w, (t y1), z, h y1⟩
theorem sfIL1_0 {n cc : Nat} {B : M Fl} {g : Pat} {t : D → TM D} (hg : ∀ js w, (g js w)[0]? = some (.cel .io w)) (f : D → Pat) (hf : ∀ y1 js w, f y1 js w = [.cel .io w, .val y1] ++ List.replicate (n - 2) .no) (h : ∀ y1, SimB cc (f y1) g B (t y1) flL (fun _ => g)) : SimFW cc 0 (defF (some 0) true n B) (u1 t) := sf_defIL hg fun pre post P E hi p => by
  obtain ⟨y1, e, z⟩ := u1_inv p
  cases pre with
  | cons _ _ => cases hi
  | nil =>
    cases (show post = _ from e)
    exact ⟨f y1, fun js w => hf y1 js w, (t y1), z, h y1⟩
theorem sfI1_1 {n cc : Nat} {B : M Fl} {g : Pat} {t : D → TM D} (hg : ∀ js w, (g js w)[1]? = some (.cel .io w)) (f : D → Pat) (hf : ∀ y1 js w, f y1 js w = [.val y1, .cel .io w] ++ List.replicate (n - 2) .no) (h : ∀ y1, SimB cc (f y1) g B (t y1) flR (fun _ => g)) : SimFW cc 1 (defF (some 1) false n B) (u1 t) := sf_defI hg fun pre post P E hi p => by
  obtain ⟨y1, e, z⟩ := u1_inv p
  match pre, hi with
  | [p0], _ =>
    injection (show p0 :: post = _ from e) with e1 e2
    subst e2
    rw [e1]
    exact ⟨f y1, fun js w => hf y1 js w, (t y1), z, h y1⟩
theorem u2_inv {t : D → D → TM D} {P : D → Prop} {E : XP} : ∀ {ds : List D}, u2 t ds P E → ∃ y1 y2, ds = [y1, y2] ∧ t y1 y2 P E
  | [y1, y2], p => ⟨y1, y2, rfl, p⟩
  | [], p => p.elim
  | [_], p => p.elim
  | _ :: _ :: _ :: _, p => p.elim
theorem u2_len {t : D → D → TM D} : ∀ (ds : List D) (P : D → Prop) (E : XP), u2 t ds P E → ds.length = 2 := fun ds P E p => by
  obtain ⟨y1, y2, rfl, p⟩ := u2_inv p
  rfl
theorem u2_len' {t : D → D → TM D} : ∀ (ds : List D) (P : D → Prop) (E : XP), u2 t ds P E → ds.length + 1 = 3 := fun ds P E p => by
  rw [u2_len ds P E p]
theorem sf2 {n : Nat} {B : M Fl} {t : D → D → TM D} (f : D → D → Pat) (hf : ∀ y1 y2 js w, f y1 y2 js w = [.val y1, .val y2] ++ List.replicate (n - 2) .no) (h : ∀ y1 y2, SimB 0 (f y1 y2) anyP B (t y1 y2) flR (fun _ => anyP)) : SimF0 (defF none false n B) (u2 t) := sf_def fun ds P E p => by
  obtain ⟨y1, y2, rfl, p⟩ := u2_inv p
  exact ⟨f y1 y2, fun js w => hf y1 y2 js w, (t y1 y2), p, h y1 y2⟩
theorem sfL2 {n : Nat} {B : M Fl} {t : D → D → TM D} (f : D → D → Pat) (hf : ∀ y1 y2 js w, f y1 y2 js w = [.val y1, .val y2] ++ List.replicate (n - 2) .no) (h : ∀ y1 y2, SimB 0 (f y1 y2) anyP B (t y1 y2) flL (fun _ => anyP)) : SimF0 (defF none true n B) (u2 t) := sf_defL fun ds P E p => by
  obtain ⟨y1, y2, rfl, p⟩ := u2_inv p
  exact ⟨f y1 y2, fun js w => hf y1 y2 js w, (t y1 y2), p, h y1 y2⟩
theorem sfI2_0 {n cc : Nat} {B : M Fl} {g : Pat} {t : D → D → TM D} (hg : ∀ js w, (g js w)[0]? = some (.cel .io w)) (f : D → D → Pat) (hf : ∀ y1 y2 js w, f y1 y2 js w = [.cel .io w, .val y1, .val y2] ++ List.replicate (n - 3) .no) (h : ∀ y1 y2, SimB cc (f y1 y2) g B (t y1 y2) flR (fun _ => g)) : SimFW cc 0 (defF (some 0) false n B) (u2 t) := sf_defI hg fun pre post P E hi p => by
  obtain ⟨y1, y2, e, z⟩ := u2_inv p
  cases pre with
  | cons _ _ => cases hi
  | nil =>
    cases (show post = _ from e)
    exact ⟨f y1 y2, fun js w => hf y1 y2 js w, (t y1 y2), z, h y1 y2⟩
theorem sfIL2_0 {n cc : Nat} {B : M Fl} {g : Pat} {t : D → D → TM D} (hg : ∀ js w, (g js w)[0]? = some (.cel .io w)) (f : D → D → Pat) (hf : ∀ y1 y2 js w, f y1 y2 js w = [.cel .io w, .val y1, .val y2] ++ List.replicate (n - 3) .no) (h : ∀ y1 y2, SimB cc (f y1 y2) g B (t y1 y2) flL (fun _ => g)) : SimFW cc 0 (defF (some 0) true n B) (u2 t) := sf_defIL hg fun pre post P E hi p => by
  obtain ⟨y1, y2, e, z⟩ := u2_inv p
  cases pre with
  | cons _ _ => cases hi
  | nil =>
    cases (show post = _ from e)
    exact ⟨f y1 y2, fun js w => hf y1 y2 js w, (t y1 y2), z, h y1 y2⟩
theorem sfI2_1 {n cc : Nat} {B : M Fl} {g : Pat} {t : D → D → TM D} (hg : ∀ js w, (g js w)[1]? = some (.cel .io w)) (f : D → D → Pat) (hf : ∀ y1 y2 js w, f y1 y2 js w = [.val y1, .cel .io w, .val y2] ++ List.replicate (n - 3) .no) (h : ∀ y1 y2, SimB cc (f y1 y2) g B (t y1 y2) flR (fun _ => g)) : SimFW cc 1 (defF (some 1) false n B) (u2 t) := sf_defI hg fun pre post P E hi p => by
  obtain ⟨y1, y2, e, z⟩ := u2_inv p
  match pre, hi with
  | [p0], _ =>
    injection (show p0 :: post = _ from e) with e1 e2
    subst e2
    rw [e1]
    exact ⟨f y1 y2, fun js w => hf y1 y2 js w, (t y1 y2), z, h y1 y2⟩
theorem u3_inv {t : D → D → D → TM D} {P : D → Prop} {E : XP} : ∀ {ds : List D}, u3 t ds P E → ∃ y1 y2 y3, ds = [y1, y2, y3] ∧ t y1 y2 y3 P E
  | [y1, y2, y3], p => ⟨y1, y2, y3, rfl, p⟩
  | [], p => p.elim
  | [_], p => p.elim
  | [_, _], p => p.elim
  | _ :: _ :: _ :: _ :: _, p => p.elim
theorem u3_len {t : D → D → D → TM D} : ∀ (ds : List D) (P : D → Prop) (E : XP), u3 t ds P E → ds.length = 3 := fun ds P E p => by
  obtain ⟨y1, y2, y3, rfl, p⟩ := u3_inv p
  rfl
theorem u3_len' {t : D → D → D → TM D} : ∀ (ds : List D) (P : D → Prop) (E : XP), u3 t ds P E → ds.length + 1 = 4 := fun ds P E p => by
  rw [u3_len ds P E p]
theorem sf3 {n : Nat} {B : M Fl} {t : D → D → D → TM D} (f : D → D → D → Pat) (hf : ∀ y1 y2 y3 js w, f y1 y2 y3 js w = [.val y1, .val y2, .val y3] ++ List.replicate (n - 3) .no) (h : ∀ y1 y2 y3, SimB 0 (f y1 y2 y3) anyP B (t y1 y2 y3) flR (fun _ => anyP)) : SimF0 (defF none false n B) (u3 t) := sf_def fun ds P E p => by
  obtain ⟨y1, y2, y3, rfl, p⟩ := u3_inv p
  exact ⟨f y1 y2 y3, fun js w => hf y1 y2 y3 js w, (t y1 y2 y3), p, h y1 y2 y3⟩
theorem sfL3 {n : Nat} {B : M Fl} {t : D → D → D → TM D} (f : D → D → D → Pat) (hf : ∀ y1 y2 y3 js w, f y1 y2 y3 js w = [.val y1, .val y2, .val y3] ++ List.replicate (n - 3) .no) (h : ∀ y1 y2 y3, SimB 0 (f y1 y2 y3) anyP B (t y1 y2 y3) flL (fun _ => anyP)) : SimF0 (defF none true n B) (u3 t) := sf_defL fun ds P E p => by
  obtain ⟨y1, y2, y3, rfl, p⟩ := u3_inv p
  exact ⟨f y1 y2 y3, fun js w => hf y1 y2 y3 js w, (t y1 y2 y3), p, h y1 y2 y3⟩
theorem sfI3_0 {n cc : Nat} {B : M Fl} {g : Pat} {t : D → D → D → TM D} (hg : ∀ js w, (g js w)[0]? = some (.cel .io w)) (f : D → D → D → Pat) (hf : ∀ y1 y2 y3 js w, f y1 y2 y3 js w = [.cel .io w, .val y1, .val y2, .val y3] ++ List.replicate (n - 4) .no) (h : ∀ y1 y2 y3, SimB cc (f y1 y2 y3) g B (t y1 y2 y3) flR (fun _ => g)) : SimFW cc 0 (defF (some 0) false n B) (u3 t) := sf_defI hg fun pre post P E hi p => by
  obtain ⟨y1, y2, y3, e, z⟩ := u3_inv p
  cases pre with
  | cons _ _ => cases hi
  | nil =>
    cases (show post = _ from e)
    exact ⟨f y1 y2 y3, fun js w => hf y1 y2 y3 js w, (t y1 y2 y3), z, h y1 y2 y3⟩
theorem sfIL3_0 {n cc : Nat} {B : M Fl} {g : Pat} {t : D → D → D → TM D} (hg : ∀ js w, (g js w)[0]? = some (.cel .io w)) (f : D → D → D → Pat) (hf : ∀ y1 y2 y3 js w, f y1 y2 y3 js w = [.cel .io w, .val y1, .val y2, .val y3] ++ List.replicate (n - 4) .no) (h : ∀ y1 y2 y3, SimB cc (f y1 y2 y3) g B (t y1 y2 y3) flL (fun _ => g)) : SimFW cc 0 (defF (some 0) true n B) (u3 t) := sf_defIL hg fun pre post P E hi p => by
  obtain ⟨y1, y2, y3, e, z⟩ := u3_inv p
  cases pre with
  | cons _ _ => cases hi
  | nil =>
    cases (show post = _ from e)
    exact ⟨f y1 y2 y3, fun js w => hf y1 y2 y3 js w, (t y1 y2 y3), z, h y1 y2 y3⟩
theorem sfI3_1 {n cc : Nat} {B : M Fl} {g : Pat} {t : D → D → D → TM D} (hg : ∀ js w, (g js w)[1]? = some (.cel .io w)) (f : D → D → D → Pat) (hf : ∀ y1 y2 y3 js w, f y1 y2 y3 js w = [.val y1, .cel .io w, .val y2, .val y3] ++ List.replicate (n - 4) .no) (h : ∀ y1 y2 y3, SimB cc (f y1 y2 y3) g B (t y1 y2 y3) flR (fun _ => g)) : SimFW cc 1 (defF (some 1) false n B) (u3 t) := sf_defI hg fun pre post P E hi p => by
  obtain ⟨y1, y2, y3, e, z⟩ := u3_inv p
  match pre, hi with
  | [p0], _ =>
    injection (show p0 :: post = _ from e) with e1 e2
    subst e2
    rw [e1]
    exact ⟨f y1 y2 y3, fun js w => hf y1 y2 y3 js w, (t y1 y2 y3), z, h y1 y2 y3⟩
theorem u4_inv {t : D → D → D → D → TM D} {P : D → Prop} {E : XP} : ∀ {ds : List D}, u4 t ds P E → ∃ y1 y2 y3 y4, ds = [y1, y2, y3, y4] ∧ t y1 y2 y3 y4 P E
  | [y1, y2, y3, y4], p => ⟨y1, y2, y3, y4, rfl, p⟩
  | [], p => p.elim
  | [_], p => p.elim
  | [_, _], p => p.elim
  | [_, _, _], p => p.elim
  | _ :: _ :: _ :: _ :: _ :: _, p => p.elim
theorem u4_len {t : D → D → D → D → TM D} : ∀ (ds : List D) (P : D → Prop) (E : XP), u4 t ds P E → ds.length = 4 := fun ds P E p => by
  obtain ⟨y1, y2, y3, y4, rfl, p⟩ := u4_inv p
  rfl
theorem u4_len' {t : D → D → D → D → TM D} : ∀ (ds : List D) (P : D → Prop) (E : XP), u4 t ds P E → ds.length + 1 = 5 := fun ds P E p => by
  rw [u4_len ds P E p]
theorem sf4 {n : Nat} {B : M Fl} {t : D → D → D → D → TM D} (f : D → D → D → D → Pat) (hf : ∀ y1 y2 y3 y4 js w, f y1 y2 y3 y4 js w = [.val y1, .val y2, .val y3, .val y4] ++ List.replicate (n - 4) .no) (h : ∀ y1 y2 y3 y4, SimB 0 (f y1 y2 y3 y4) anyP B (t y1 y2 y3 y4) flR (fun _ => anyP)) : SimF0 (defF none false n B) (u4 t) := sf_def fun ds P E p => by
  obtain ⟨y1, y2, y3, y4, rfl, p⟩ := u4_inv p
  exact ⟨f y1 y2 y3 y4, fun js w => hf y1 y2 y3 y4 js w, (t y1 y2 y3 y4), p, h y1 y2 y3 y4⟩
theorem sfL4 {n : Nat} {B : M Fl} {t : D → D → D → D → TM D} (f : D → D → D → D → Pat) (hf : ∀ y1 y2 y3 y4 js w, f y1 y2 y3 y4 js w = [.val y1, .val y2, .val y3, .val y4] ++ List.replicate (n - 4) .no) (h : ∀ y1 y2 y3 y4, SimB 0 (f y1 y2 y3 y4) anyP B (t y1 y2 y3 y4) flL (fun _ => anyP)) : SimF0 (defF none true n B) (u4 t) := sf_defL fun ds P E p => by
  obtain ⟨y1, y2, y3, y4, rfl, p⟩ := u4_inv p
  exact ⟨f y1 y2 y3 y4, fun js w => hf y1 y2 y3 y4 js w, (t y1 y2 y3 y4), p, h y1 y2 y3 y4⟩
theorem sfI4_0 {n cc : Nat} {B : M Fl} {g : Pat} {t : D → D → D → D → TM D} (hg : ∀ js w, (g js w)[0]? = some (.cel .io w)) (f : D → D → D → D → Pat) (hf : ∀ y1 y2 y3 y4 js w, f y1 y2 y3 y4 js w = [.cel .io w, .val y1, .val y2, .val y3, .val y4] ++ List.replicate (n - 5) .no) (h : ∀ y1 y2 y3 y4, SimB cc (f y1 y2 y3 y4) g B (t y1 y2 y3 y4) flR (fun _ => g)) : SimFW cc 0 (defF (some 0) false n B) (u4 t) := sf_defI hg fun pre post P E hi p => by
  obtain ⟨y1, y2, y3, y4, e, z⟩ := u4_inv p
  cases pre with
  | cons _ _ => cases hi
  | nil =>
    cases (show post = _ from e)
    exact ⟨f y1 y2 y3 y4, fun js w => hf y1 y2 y3 y4 js w, (t y1 y2 y3 y4), z, h y1 y2 y3 y4⟩
theorem sfI4_1 {n cc : Nat} {B : M Fl} {g : Pat} {t : D → D → D → D → TM D} (hg : ∀ js w, (g js w)[1]? = some (.cel .io w)) (f : D → D → D → D → Pat) (hf : ∀ y1 y2 y3 y4 js w, f y1 y2 y3 y4 js w = [.val y1, .cel .io w, .val y2, .val y3, .val y4] ++ List.replicate (n - 5) .no) (h : ∀ y1 y2 y3 y4, SimB cc (f y1 y2 y3 y4) g B (t y1 y2 y3 y4) flR (fun _ => g)) : SimFW cc 1 (defF (some 1) false n B) (u4 t) := sf_defI hg fun pre post P E hi p => by
  obtain ⟨y1, y2, y3, y4, e, z⟩ := u4_inv p
  match pre, hi with
  | [p0], _ =>
    injection (show p0 :: post = _ from e) with e1 e2
    subst e2
    rw [e1]
    exact ⟨f y1 y2 y3 y4, fun js w => hf y1 y2 y3 y4 js w, (t y1 y2 y3 y4), z, h y1 y2 y3 y4⟩
theorem u5_inv {t : D → D → D → D → D → TM D} {P : D → Prop} {E : XP} : ∀ {ds : List D}, u5 t ds P E → ∃ y1 y2 y3 y4 y5, ds = [y1, y2, y3, y4, y5] ∧ t y1 y2 y3 y4 y5 P E
  | [y1, y2, y3, y4, y5], p => ⟨y1, y2, y3, y4, y5, rfl, p⟩
  | [], p => p.elim
  | [_], p => p.elim
  | [_, _], p => p.elim
  | [_, _, _], p => p.elim
  | [_, _, _, _], p => p.elim
  | _ :: _ :: _ :: _ :: _ :: _ :: _, p => p.elim
theorem u5_len {t : D → D → D → D → D → TM D} : ∀ (ds : List D) (P : D → Prop) (E : XP), u5 t ds P E → ds.length = 5 := fun ds P E p => by
  obtain ⟨y1, y2, y3, y4, y5, rfl, p⟩ := u5_inv p
  rfl
theorem u5_len' {t : D → D → D → D → D → TM D} : ∀ (ds : List D) (P : D → Prop) (E : XP), u5 t ds P E → ds.length + 1 = 6 := fun ds P E p => by
  rw [u5_len ds P E p]
theorem sf5 {n : Nat} {B : M Fl} {t : D → D → D → D → D → TM D} (f : D → D → D → D → D → Pat) (hf : ∀ y1 y2 y3 y4 y5 js w, f y1 y2 y3 y4 y5 js w = [.val y1, .val y2, .val y3, .val y4, .val y5] ++ List.replicate (n - 5) .no) (h : ∀ y1 y2 y3 y4 y5, SimB 0 (f y1 y2 y3 y4 y5) anyP B (t y1 y2 y3 y4 y5) flR (fun _ => anyP)) : SimF0 (defF none false n B) (u5 t) := sf_def fun ds P E p => by
  obtain ⟨y1, y2, y3, y4, y5, rfl, p⟩ := u5_inv p
  exact ⟨f y1 y2 y3 y4 y5, fun js w => hf y1 y2 y3 y4 y5 js w, (t y1 y2 y3 y4 y5), p, h y1 y2 y3 y4 y5⟩
theorem sfL5 {n : Nat} {B : M Fl} {t : D → D → D → D → D → TM D} (f : D → D → D → D → D → Pat) (hf : ∀ y1 y2 y3 y4 y5 js w, f y1 y2 y3 y4 y5 js w = [.val y1, .val y2, .val y3, .val y4, .val y5] ++ List.replicate (n - 5) .no) (h : ∀ y1 y2 y3 y4 y5, SimB 0 (f y1 y2 y3 y4 y5) anyP B (t y1 y2 y3 y4 y5) flL (fun _ => anyP)) : SimF0 (defF none true n B) (u5 t) := sf_defL fun ds P E p => by
  obtain ⟨y1, y2, y3, y4, y5, rfl, p⟩ := u5_inv p
  exact ⟨f y1 y2 y3 y4 y5, fun js w => hf y1 y2 y3 y4 y5 js w, (t y1 y2 y3 y4 y5), p, h y1 y2 y3 y4 y5⟩
theorem sfI5_0 {n cc : Nat} {B : M Fl} {g : Pat} {t : D → D → D → D → D → TM D} (hg : ∀ js w, (g js w)[0]? = some (.cel .io w)) (f : D → D → D → D → D → Pat) (hf : ∀ y1 y2 y3 y4 y5 js w, f y1 y2 y3 y4 y5 js w = [.cel .io w, .val y1, .val y2, .val y3, .val y4, .val y5] ++ List.replicate (n - 6) .no) (h : ∀ y1 y2 y3 y4 y5, SimB cc (f y1 y2 y3 y4 y5) g B (t y1 y2 y3 y4 y5) flR (fun _ => g)) : SimFW cc 0 (defF (some 0) false n B) (u5 t) := sf_defI hg fun pre post P E hi p => by
  obtain ⟨y1, y2, y3, y4, y5, e, z⟩ := u5_inv p
  cases pre with
  | cons _ _ => cases hi
  | nil =>
    cases (show post = _ from e)
    exact ⟨f y1 y2 y3 y4 y5, fun js w => hf y1 y2 y3 y4 y5 js w, (t y1 y2 y3 y4 y5), z, h y1 y2 y3 y4 y5⟩
theorem sfI5_1 {n cc : Nat} {B : M Fl} {g : Pat} {t : D → D → D → D → D → TM D} (hg : ∀ js w, (g js w)[1]? = some (.cel .io w)) (f : D → D → D → D → D → Pat) (hf : ∀ y1 y2 y3 y4 y5 js w, f y1 y2 y3 y4 y5 js w = [.val y1, .cel .io w, .val y2, .val y3, .val y4, .val y5] ++ List.replicate (n - 6) .no) (h : ∀ y1 y2 y3 y4 y5, SimB cc (f y1 y2 y3 y4 y5) g B (t y1 y2 y3 y4 y5) flR (fun _ => g)) : SimFW cc 1 (defF (some 1) false n B) (u5 t) := sf_defI hg fun pre post P E hi p => by
  obtain ⟨y1, y2, y3, y4, y5, e, z⟩ := u5_inv p
  match pre, hi with
  | [p0], _ =>
    injection (show p0 :: post = _ from e) with e1 e2
    subst e2
    rw [e1]
    exact ⟨f y1 y2 y3 y4 y5, fun js w => hf y1 y2 y3 y4 y5 js w, (t y1 y2 y3 y4 y5), z, h y1 y2 y3 y4 y5⟩
theorem u6_inv {t : D → D → D → D → D → D → TM D} {P : D → Prop} {E : XP} : ∀ {ds : List D}, u6 t ds P E → ∃ y1 y2 y3 y4 y5 y6, ds = [y1, y2, y3, y4, y5, y6] ∧ t y1 y2 y3 y4 y5 y6 P E
  | [y1, y2, y3, y4, y5, y6], p => ⟨y1, y2, y3, y4, y5, y6, rfl, p⟩
  | [], p => p.elim
  | [_], p => p.elim
  | [_, _], p => p.elim
  | [_, _, _], p => p.elim
  | [_, _, _, _], p => p.elim
  | [_, _, _, _, _], p => p.elim
  | _ :: _ :: _ :: _ :: _ :: _ :: _ :: _, p => p.elim
theorem u6_len {t : D → D → D → D → D → D → TM D} : ∀ (ds : List D) (P : D → Prop) (E : XP), u6 t ds P E → ds.length = 6 := fun ds P E p => by
  obtain ⟨y1, y2, y3, y4, y5, y6, rfl, p⟩ := u6_inv p
  rfl
theorem u6_len' {t : D → D → D → D → D → D → TM D} : ∀ (ds : List D) (P : D → Prop) (E : XP), u6 t ds P E → ds.length + 1 = 7 := fun ds P E p => by
  rw [u6_len ds P E p]
theorem sf6 {n : Nat} {B : M Fl} {t : D → D → D → D → D → D → TM D} (f : D → D → D → D → D → D → Pat) (hf : ∀ y1 y2 y3 y4 y5 y6 js w, f y1 y2 y3 y4 y5 y6 js w = [.val y1, .val y2, .val y3, .val y4, .val y5, .val y6] ++ List.replicate (n - 6) .no) (h : ∀ y1 y2 y3 y4 y5 y6, SimB 0 (f y1 y2 y3 y4 y5 y6) anyP B (t y1 y2 y3 y4 y5 y6) flR (fun _ => anyP)) : SimF0 (defF none false n B) (u6 t) := sf_def fun ds P E p => by
  obtain ⟨y1, y2, y3, y4, y5, y6, rfl, p⟩ := u6_inv p
  exact ⟨f y1 y2 y3 y4 y5 y6, fun js w => hf y1 y2 y3 y4 y5 y6 js w, (t y1 y2 y3 y4 y5 y6), p, h y1 y2 y3 y4 y5 y6⟩
theorem u7_inv {t : D → D → D → D → D → D → D → TM D} {P : D → Prop} {E : XP} : ∀ {ds : List D}, u7 t ds P E → ∃ y1 y2 y3 y4 y5 y6 y7, ds = [y1, y2, y3, y4, y5, y6, y7] ∧ t y1 y2 y3 y4 y5 y6 y7 P E
  | [y1, y2, y3, y4, y5, y6, y7], p => ⟨y1, y2, y3, y4, y5, y6, y7, rfl, p⟩
  | [], p => p.elim
  | [_], p => p.elim
  | [_, _], p => p.elim
  | [_, _, _], p => p.elim
  | [_, _, _, _], p => p.elim
  | [_, _, _, _, _], p => p.elim
  | [_, _, _, _, _, _], p => p.elim
  | _ :: _ :: _ :: _ :: _ :: _ :: _ :: _ :: _, p => p.elim
theorem u7_len {t : D → D → D → D → D → D → D → TM D} : ∀ (ds : List D) (P : D → Prop) (E : XP), u7 t ds P E → ds.length = 7 := fun ds P E p => by
  obtain ⟨y1, y2, y3, y4, y5, y6, y7, rfl, p⟩ := u7_inv p
  rfl
theorem u7_len' {t : D → D → D → D → D → D → D → TM D} : ∀ (ds : List D) (P : D → Prop) (E : XP), u7 t ds P E → ds.length + 1 = 8 := fun ds P E p => by
  rw [u7_len ds P E p]
theorem sf7 {n : Nat} {B : M Fl} {t : D → D → D → D → D → D → D → TM D} (f : D → D → D → D → D → D → D → Pat) (hf : ∀ y1 y2 y3 y4 y5 y6 y7 js w, f y1 y2 y3 y4 y5 y6 y7 js w = [.val y1, .val y2, .val y3, .val y4, .val y5, .val y6, .val y7] ++ List.replicate (n - 7) .no) (h : ∀ y1 y2 y3 y4 y5 y6 y7, SimB 0 (f y1 y2 y3 y4 y5 y6 y7) anyP B (t y1 y2 y3 y4 y5 y6 y7) flR (fun _ => anyP)) : SimF0 (defF none false n B) (u7 t) := sf_def fun ds P E p => by
  obtain ⟨y1, y2, y3, y4, y5, y6, y7, rfl, p⟩ := u7_inv p
  exact ⟨f y1 y2 y3 y4 y5 y6 y7, fun js w => hf y1 y2 y3 y4 y5 y6 y7 js w, (t y1 y2 y3 y4 y5 y6 y7), p, h y1 y2 y3 y4 y5 y6 y7⟩
end FL
namespace FL
open PySem PySem.Spec L2
/-- n: how many stand there so far -/
def compA2 {σ τ : Type} (tg : D → TM σ) (tt : σ → TM Bool) (ti1 : σ → TM (List D)) (tg1 : σ → D → TM τ) (tt1 : σ → τ → TM Bool) (te : σ → τ → TM D) : List D → Nat → TM (List D)
  | [], _ => tp []
  | d :: ds, n => tb (tg d) fun u => tb (tt u) fun k => if k then tb (ti1 u) fun es => tA (n + es.length ≤ most) (tb (compL (tg1 u) (tt1 u) (te u) es) fun a => tb (compA2 tg tt ti1 tg1 tt1 te ds (n + a.length)) fun b => tp (a ++ b)) else compA2 tg tt ti1 tg1 tt1 te ds n
def compT2 {σ τ : Type} (it : TM (List D)) (tg : D → TM σ) (tt : σ → TM Bool) (ti1 : σ → TM (List D)) (tg1 : σ → D → TM τ) (tt1 : σ → τ → TM Bool) (te : σ → τ → TM D) : TM (List D) := tb it fun ds => tA (ds.length ≤ most) (tNX (compA2 tg tt ti1 tg1 tt1 te ds 0))
section
variable {υ ω : Type} {f g : Pat} {c c0 c1 c2 c3 c4 c5 c6 : Nat}
theorem comp2_run {vs vs1 : List Nat} {gt gt1 : D → M Unit} {mt mt1 : M Bool} {mi : M (List D)} {e : M D} {tg : D → TM υ} {ut : υ → TM Bool} {ui : υ → TM (List D)} {tg1 : υ → D → TM ω} {ut1 : υ → ω → TM Bool} {ue : υ → ω → TM D} {fw : Pat} {f1 fw1 : υ → Pat} {f2 : υ → ω → Pat}
    (hg : ∀ d, SimG c1 fw anyP (gt d) (tg d) f1) (ht : ∀ u, SimM c2 (f1 u) anyP mt (ut u)) (hi : ∀ u, SimM c3 (f1 u) anyP mi (ui u))
    (hg1 : ∀ u d, SimG c4 (fw1 u) anyP (gt1 d) (tg1 u d) (f2 u)) (ht1 : ∀ u v, SimM c5 (f2 u v) anyP mt1 (ut1 u v)) (he : ∀ u v, SimM c6 (f2 u v) anyP e (ue u v))
    (hb : ∀ u js ds, ∃ js', wipeE (f1 u js ds) vs = fw js' ds) (hw : ∀ u js ds, ∃ js', wipeE (f1 u js ds) vs1 = fw1 u js' ds) (hb1 : ∀ u v js ds, ∃ js', wipeE (f2 u v js ds) vs1 = fw1 u js' ds) (hb2 : ∀ u js ds, ∃ js', wipeE (fw1 u js ds) vs = fw js' ds) :
    ∀ (ds acc : List D) (n k : Nat) (r : List Ent) (P : List D → Prop), Got fw k r → k + (c1 + c2 + c3 + (c4 + c5 + c6) * most) * ds.length ≤ big → acc.length = n → compA2 tg ut ui tg1 ut1 ue ds n P (fun _ _ => False) →
      Wx (compD2 vs vs1 gt mt mi gt1 mt1 e ds acc) r (fun l r => Got fw (k + (c1 + c2 + c3 + (c4 + c5 + c6) * most) * ds.length) r ∧ ∃ l', l = acc ++ l' ∧ P l') fun _ _ _ => False
  | [], acc, n, k, r, P, q, l, hl, p => ⟨q, [], (List.append_nil _).symm, p⟩
  | d :: ds, acc, n, k, r, P, q, l, hl, p => by
    rw [List.length_cons, Nat.mul_succ] at l ⊢
    have hC : ∀ x, x ≤ most → (c4 + c5 + c6) * x ≤ (c4 + c5 + c6) * most := fun x hx => Nat.mul_le_mul_left _ hx
    generalize hC2 : (c4 + c5 + c6) * most = B at *
    generalize hn : (c1 + c2 + c3 + B) * ds.length = m at l ⊢
    have nx : ∀ {α : Type} {m : M α} {r : List Ent} {Q Q' : α → List Ent → Prop} {E : Str → Option (Str × D) → List Ent → Prop}, Wx m r Q E → (∀ c p r, ¬ E c p r) → (∀ a r, Q a r → Q' a r) → Wx (noX m) r Q' fun _ _ _ => False := fun {α m r Q Q' E} h hE hQ => by
      unfold Wx at *
      unfold noX
      cases e : m r with
      | ok a o => rw [e] at h; exact hQ _ _ h
      | exc c p o => rw [e] at h; exact (hE _ _ _ h).elim
      | bad => rw [e] at h; exact h.elim
    refine wx_B (nx (hg d k r _ (fun _ _ => False) q (by omega) p) (fun _ _ _ z => z.2) fun _ r1 ⟨u, q1, p1⟩ => ?_)
    refine wx_B (nx (ht u (k + c1) r1 _ (fun _ _ => False) q1 (by omega) p1) (fun _ _ _ z => z.2) fun kk r2 ⟨q2, p2⟩ => ?_)
    cases kk with
    | true =>
      refine wx_B (nx (hi u (k + c1 + c2) r2 _ (fun _ _ => False) q2 (by omega) p2) (fun _ _ _ z => z.2) fun es r3 ⟨⟨js, w, hw3, e3⟩, p3, p4⟩ => ?_)
      obtain ⟨js', e4⟩ := hw u js w
      have hes : es.length ≤ most := by omega
      have hCe := hC es.length hes
      have run := comp_run (vs := vs1) (hg1 u) (ht1 u) (he u) (hb1 u) es acc (k + c1 + c2 + c3) (wipeE r3 vs1) _ ⟨js', w, hw3.up (by omega), by rw [e3, e4]⟩ (by omega) (by omega) p4
      show Wx (innD vs vs1 gt1 mt1 e _ es acc) (wipeE r3 vs1) _ _
      unfold Wx innD at *
      cases e6 : compD vs1 gt1 mt1 e es acc (wipeE r3 vs1) with
      | exc c p o => rw [e6] at run; exact run.elim
      | bad => rw [e6] at run; exact run.elim
      | ok a o =>
        rw [e6] at run
        obtain ⟨⟨js5, w5, hw5, e5⟩, l', e7, h2⟩ := run
        obtain ⟨js7, e8⟩ := hb2 u js5 w5
        subst e5 e7
        have := comp2_run hg ht hi hg1 ht1 he hb hw hb1 hb2 ds (acc ++ l') (n + l'.length) (k + (c1 + c2 + c3 + B)) (wipeE (fw1 u js5 w5) vs) _ ⟨js7, w5, hw5.up (by omega), e8⟩ (by rw [hC2, hn]; omega) (by rw [List.length_append, hl]) h2
        rw [hC2, hn] at this
        have e5 : k + (c1 + c2 + c3 + B) + m = k + (m + (c1 + c2 + c3 + B)) := by omega
        rw [e5] at this
        unfold Wx at this
        simp only
        cases e9 : compD2 vs vs1 gt mt mi gt1 mt1 e ds (acc ++ l') (wipeE (fw1 u js5 w5) vs) with
        | exc c p o => rw [e9] at this; exact this.elim
        | bad => rw [e9] at this; exact this.elim
        | ok a o =>
          rw [e9] at this
          obtain ⟨h1, l2, e10, h3⟩ := this
          exact ⟨h1, l' ++ l2, by rw [e10, List.append_assoc], h3⟩
    | false =>
      obtain ⟨js, w, hw3, e3⟩ := q2
      obtain ⟨js', e4⟩ := hb u js w
      have := comp2_run hg ht hi hg1 ht1 he hb hw hb1 hb2 ds acc n (k + (c1 + c2 + c3 + B)) (wipeE r2 vs) _ ⟨js', w, hw3.up (by omega), by rw [e3, e4]⟩ (by rw [hC2, hn]; omega) hl p2
      rw [hC2, hn] at this
      have e5 : k + (c1 + c2 + c3 + B) + m = k + (m + (c1 + c2 + c3 + B)) := by omega
      rw [e5] at this
      unfold Wx at this ⊢
      exact this
theorem sm_comp2 {vs vs1 : List Nat} {it : M (List D)} {ti : TM (List D)} {gt gt1 : D → M Unit} {mt mt1 : M Bool} {mi : M (List D)} {e : M D} {tg : D → TM υ} {ut : υ → TM Bool} {ui : υ → TM (List D)} {tg1 : υ → D → TM ω} {ut1 : υ → ω → TM Bool} {ue : υ → ω → TM D} (fw : Pat) (f1 fw1 : υ → Pat) (f2 : υ → ω → Pat) (h0 : SimM c0 f g it ti)
    (hg : ∀ d, SimG c1 fw anyP (gt d) (tg d) f1) (ht : ∀ u, SimM c2 (f1 u) anyP mt (ut u)) (hi : ∀ u, SimM c3 (f1 u) anyP mi (ui u))
    (hg1 : ∀ u d, SimG c4 (fw1 u) anyP (gt1 d) (tg1 u d) (f2 u)) (ht1 : ∀ u v, SimM c5 (f2 u v) anyP mt1 (ut1 u v)) (he : ∀ u v, SimM c6 (f2 u v) anyP e (ue u v))
    (hn : ∀ js ds, noCel vs (f js ds) = true) (hw0 : ∀ js ds, wipeE (f js ds) vs = fw js ds)
    (hb : ∀ u js ds, ∃ js', wipeE (f1 u js ds) vs = fw js' ds) (hw : ∀ u js ds, ∃ js', wipeE (f1 u js ds) vs1 = fw1 u js' ds) (hb1 : ∀ u v js ds, ∃ js', wipeE (f2 u v js ds) vs1 = fw1 u js' ds) (hb2 : ∀ u js ds, ∃ js', wipeE (fw1 u js ds) vs = fw js' ds)
    (hp : ∀ js0 ds0 js ds, ∃ js', putBack (f js0 ds0) (fw js ds) vs = f js' ds) (hc : c0 + (c1 + c2 + c3 + (c4 + c5 + c6) * most) * most ≤ c) : SimM c f g (lComp2 vs vs1 it gt mt mi gt1 mt1 e) (compT2 ti tg ut ui tg1 ut1 ue) := fun k r P E q l p => by
  refine wx_B ((h0 k r _ E q (by omega) p).imp (fun ds r1 ⟨⟨js, w, hw', e1⟩, p0, p1⟩ => ?_) fun _ _ _ ⟨a, b⟩ => ⟨a.up (by omega), b⟩)
  have hl : (c1 + c2 + c3 + (c4 + c5 + c6) * most) * ds.length ≤ (c1 + c2 + c3 + (c4 + c5 + c6) * most) * most := Nat.mul_le_mul_left _ p0
  generalize hN : (c1 + c2 + c3 + (c4 + c5 + c6) * most) * most = n at hl hc
  subst e1
  have := comp2_run (vs := vs) (vs1 := vs1) hg ht hi hg1 ht1 he hb hw hb1 hb2 ds [] 0 (k + c0) (fw js w) P ⟨js, w, hw', rfl⟩ (by omega) rfl p1
  unfold Wx at this ⊢
  simp only [hn, if_true, hw0]
  cases e6 : compD2 vs vs1 gt mt mi gt1 mt1 e ds [] (fw js w) with
  | ok a o =>
    rw [e6] at this
    obtain ⟨⟨js2, w2, hw2, e7⟩, l', e8, h2⟩ := this
    obtain ⟨js3, e9⟩ := hp js w js2 w2
    subst e7
    rw [List.nil_append] at e8
    subst e8
    exact ⟨⟨js3, w2, hw2.up (by omega), e9⟩, h2⟩
  | exc c p o => rw [e6] at this; exact this.elim
  | bad => rw [e6] at this; exact this.elim
end
end FL
/-! TL5: terms for starred items, insert, a fresh well handed on. -/
namespace FL
open PySem PySem.Spec L2
def tSplat (a : TM D) (r : TM (List D)) : TM (List D) := tb a fun d => tb (tO (rowD d)) fun xs => tb r fun ds => tp (xs ++ ds)
def tIns (xs : List D) (ma mb : TM D) : TM (List D) := tb ma fun i => tb mb fun d => tO (insC i d xs)
section
variable {α β τ σ υ : Type} {f g : Pat} {c c1 c2 c3 c4 : Nat} {fl : τ → Fl → Prop} {pat : τ → Pat} {t : TM τ} {a : M D} {ta : TM D} {m : M (List D)} {tm : TM (List D)}
theorem sm_star (h1 : SimM c1 f g a ta) (h2 : SimM c2 f g m tm) (hc : c1 + c2 ≤ c) : SimM c f g (dStar a m) (tSplat ta tm) :=
  sm_bind h1 (fun _ => sm_bind (c1 := 0) (c2 := c2) sm_O (fun _ => sm_bind (c2 := 0) h2 (fun _ => sm_P) (Nat.le_refl _)) (by omega)) hc
theorem sm_starz (h1 : SimM 0 f g a ta) (h2 : SimM 0 f g m tm) : SimM 0 f g (dStar a m) (tSplat ta tm) := sm_star h1 h2 (Nat.le_refl 0)
theorem sb_ins {j : Nat} {kk : CK} {xs : List D} {ma mb : M D} {tma tmb : TM D} {r : M Fl} {u : List D → TM τ} (f2 : List D → Pat) (ha : SimM c1 f g ma tma) (hb : SimM c2 f g mb tmb) (h0 : ∀ js ds, (f js ds)[j]? = some (.cel kk xs)) (h1 : ∀ d js ds, (f js ds).set j (.cel kk d) = f2 d js ds) (h2 : ∀ d, SimB c3 (f2 d) g r (u d) fl pat) (hc : c1 + c2 + c3 ≤ c) :
    SimB c f g (sSeq (sIns j ma mb) r) (tb (tIns xs tma tmb) u) fl pat :=
  sb_seq (c1 := c1 + c2) (p1 := f2) (fun k r P E q l p => by
    obtain ⟨js, ds, w, rfl⟩ := q
    refine wx_B (wx_of (a := ()) (r' := f js ds) (by unfold hasC; rw [h0]) ?_)
    refine wx_B ((ha k _ _ E ⟨js, ds, w, rfl⟩ (by omega) p).imp (fun i r1 ⟨q1, p1⟩ => ?_) fun _ _ _ ⟨a, b⟩ => ⟨a.up (by omega), b⟩)
    refine wx_B ((hb (k + c1) _ _ E q1 (by omega) p1).imp (fun a r2 ⟨⟨js, ds, w, e⟩, es, p1, p2⟩ => ?_) fun _ _ _ ⟨a, b⟩ => ⟨a.up (by omega), b⟩)
    refine wx_B (wx_of (a := ()) (r' := r2.set j (.cel kk es)) (by unfold updc; rw [e, h0]; simp only; rw [p1]) ⟨_, rfl, ⟨js, ds, w.up (by omega), by rw [e, h1]⟩, p2⟩)) h2 hc
/-! a fresh well handed on -/
def SimN0 (c : Nat) (f g : Pat) (m : M (List PIt)) (t : TM (List D)) : Prop := ∀ (k : Nat) (r : List Ent) (P : List D → Prop) (E : XP), Got f k r → k + c ≤ big → t P E →
  Wx m r (fun is r' => ∃ ds, is = ds.map PIt.val ∧ Got f (k + c) r' ∧ P ds) fun x p r' => Got g (k + c) r' ∧ E x p
def SimN1 (c i : Nat) (f g : Pat) (m : M (List PIt)) (t : TM (List D)) : Prop := ∀ (k : Nat) (r : List Ent) (P : List D → Prop) (E : XP), Got f k r → k + c ≤ big → t P E →
  Wx m r (fun is r' => ∃ pre w post, is = pre.map PIt.val ++ .new w :: post.map PIt.val ∧ pre.length = i ∧ Wel 0 w ∧ Got f (k + c) r' ∧ P (pre ++ post)) fun x p r' => Got g (k + c) r' ∧ E x p
theorem sn_nil : SimN0 c f g (mP []) (tp []) := fun k r P E q l p => ⟨[], rfl, q.up (by omega), p⟩
theorem sn_val {n : M (List PIt)} (h1 : SimM c1 f g a ta) (h2 : SimN0 c2 f g n tm) (hc : c1 + c2 ≤ c) : SimN0 c f g (pVal a n) (tCons ta tm) := fun k r P E q l p => by
  refine wx_B ((h1 k r _ E q (by omega) p).imp (fun d r1 ⟨q1, p1⟩ => ?_) fun _ _ _ ⟨a, b⟩ => ⟨a.up (by omega), b⟩)
  refine wx_B ((h2 (k + c1) r1 _ E q1 (by omega) p1).imp (fun is r2 ⟨ds, e, q2, p2⟩ => ?_) fun _ _ _ ⟨a, b⟩ => ⟨a.up (by omega), b⟩)
  subst e
  exact ⟨d :: ds, rfl, q2.up (by omega), p2⟩
theorem sn_valj {i : Nat} {n : M (List PIt)} (h1 : SimM c1 f g a ta) (h2 : SimN1 c2 i f g n tm) (hc : c1 + c2 ≤ c) : SimN1 c (i + 1) f g (pVal a n) (tCons ta tm) := fun k r P E q l p => by
  refine wx_B ((h1 k r _ E q (by omega) p).imp (fun d r1 ⟨q1, p1⟩ => ?_) fun _ _ _ ⟨a, b⟩ => ⟨a.up (by omega), b⟩)
  refine wx_B ((h2 (k + c1) r1 _ E q1 (by omega) p1).imp (fun is r2 ⟨pre, w, post, e, e2, hw, q2, p2⟩ => ?_) fun _ _ _ ⟨a, b⟩ => ⟨a.up (by omega), b⟩)
  subst e
  exact ⟨d :: pre, w, post, rfl, by rw [List.length_cons, e2], hw, q2.up (by omega), p2⟩
theorem sn_new {np : Nat} {F : List Ent → R D} {tF : List D → TM Unit} {n : M (List PIt)} {tn : TM (List D)} (hF : SimWell F tF) (hn : ∀ ds P E, tF ds P E → ds.length = np) (h1 : SimM c1 f g m tm) (h2 : SimN0 c2 f g n tn) (hc : c1 + c2 ≤ c) :
    SimN1 c 0 f g (pNew (callL np F m) n) (tb (tb tm tF) fun _ => tn) := fun k r P E q l p => by
  refine wx_B (wx_B ((h1 k r _ E q (by omega) p).imp (fun ds r1 ⟨q1, p1⟩ => ?_) fun _ _ _ ⟨a, b⟩ => ⟨a.up (by omega), b⟩))
  have l1 := hn ds _ _ p1
  have := hF ds _ E p1
  unfold WxF at this
  unfold Wx
  simp only [l1, if_true]
  cases e2 : F (valsOf ds) with
  | ok d o =>
    rw [e2] at this
    obtain ⟨⟨es, rfl, hes⟩, p2⟩ := this
    refine wx_B ((h2 (k + c1) r1 _ E q1 (by omega) p2).imp (fun is r2 ⟨ds, e, q2, p2⟩ => ?_) fun _ _ _ ⟨a, b⟩ => ⟨a.up (by omega), b⟩)
    subst e
    exact ⟨[], es, ds, rfl, rfl, hes, q2.up (by omega), p2⟩
  | exc x p o => rw [e2] at this; exact this.elim
  | bad => rw [e2] at this; exact this.elim
theorem allP_of : ∀ ds : List D, allP (ds.map PIt.val) = some ds
  | [] => rfl
  | d :: ds => by simp only [List.map_cons, allP, allP_of ds, Option.map_some]
theorem splitP_of : ∀ (pre w post : List D), splitP (pre.map PIt.val ++ .new w :: post.map PIt.val) = some (pre, w, post)
  | [], w, post => by simp [splitP, allP_of]
  | d :: ds, w, post => by simp [splitP, splitP_of ds w post]
theorem sm_callN {np i : Nat} {F : List Ent → R D} {tF : List D → TM D} {n : M (List PIt)} {tn : TM (List D)} (hx : Wk f g) (hF : SimFW c2 i F tF) (hn : ∀ ds P E, tF ds P E → ds.length + 1 = np) (hb : c2 ≤ big) (h : SimN1 c i f g n tn) : SimM c f g (callN np i F n) (tb tn tF) := fun k r P E q l p => by
  refine wx_B ((h k r _ E q l p).imp (fun is r1 ⟨pre, w, post, e, e2, hw, q1, p1⟩ => ?_) fun _ _ _ z => z)
  subst e
  have h1 := hn _ P E p1
  have := hF 0 w pre post P E e2 hw (by omega) p1
  unfold WxF at this
  unfold Wx
  have hlen : (pre.map PIt.val ++ PIt.new w :: post.map PIt.val).length = np := by
    rw [← h1]; simp only [List.length_append, List.length_map, List.length_cons]; omega
  simp only [splitP_of, hlen, e2, and_self, decide_true, if_true]
  cases e : F (ioArgs pre w post) with
  | ok d o =>
    rw [e] at this
    obtain ⟨⟨w', h1, rfl⟩, p2⟩ := this
    exact ⟨q1, p2⟩
  | exc x pl o =>
    rw [e] at this
    obtain ⟨⟨w', h1, rfl⟩, p2⟩ := this
    exact ⟨q1.wk hx, p2⟩
  | bad => rw [e] at this; exact this.elim
end
end FL
/-! PL1: plain facts for terms of TM -/
namespace FL
open PySem PySem.Spec L2
section
variable {α β γ : Type}
@[simp] theorem p_tb (a : α) (f : α → TM β) : tb (tp a) f = f a := id rfl
@[simp] theorem p_tbb (m : TM α) (f : α → TM β) (g : β → TM γ) : tb (tb m f) g = tb m fun a => tb (f a) g := id rfl
@[simp] theorem p_tbr (m : TM α) : tb m (fun a => tp a) = m := id rfl
@[simp] theorem p_tO (a : α) : tO (some a) = tp a := tO_some a
@[simp] theorem p_NX (a : α) : tNX (tp a) = tp a := id rfl
@[simp] theorem p_tA (m : TM α) : tA True m = m := tA_true m trivial
@[simp] theorem p_tbA {p : Prop} (m : TM α) (f : α → TM β) : tb (tA p m) f = tA p (tb m f) := id rfl
@[simp] theorem p_NXA {p : Prop} (m : TM α) : tNX (tA p m) = tA p (tNX m) := id rfl
@[simp] theorem p_tbBad (f : α → TM β) : tb (tBad : TM α) f = tBad := id rfl
theorem p_ite {c : Prop} [Decidable c] (a b : TM α) (f : α → TM β) : tb (if c then a else b) f = if c then tb a f else tb b f := by split <;> rfl
@[simp] theorem x_2 (op : D → D → Option D) (a b : TM D) : t2 op a b = tb a fun d => tb b fun e => tO (op d e) := id rfl
@[simp] theorem x_1 (op : D → Option D) (a : TM D) : t1 op a = tb a fun d => tO (op d) := id rfl
@[simp] theorem x_and (a b : TM D) : tAnd a b = tb a fun d => tb (tO (truB d)) fun k => if k then b else tp d := id rfl
@[simp] theorem x_or (a b : TM D) : tOr a b = tb a fun d => tb (tO (truB d)) fun k => if k then tp d else b := id rfl
@[simp] theorem x_not (a : TM D) : tNot a = tb a fun d => tb (tO (truB d)) fun k => tp (.bl (!k)) := id rfl
@[simp] theorem x_if (c : TM Bool) (a b : TM α) : tIf c a b = tb c fun k => if k then a else b := id rfl
@[simp] theorem x_chain (o o' : D → D → Option D) (a b c : TM D) : tChain o o' a b c = tb a fun d => tb b fun e => tb (tO (o d e)) fun z => tb (tO (unBl z)) fun k => if k then tb c fun g => tO (o' e g) else tp (.bl false) := id rfl
@[simp] theorem x_cons (a : TM D) (r : TM (List D)) : tCons a r = tb a fun d => tb r fun ds => tp (d :: ds) := id rfl
@[simp] theorem x_tup (m : TM (List D)) : tTup m = tb m fun ds => tA (ds.length ≤ most) (tp (.tup ds)) := id rfl
@[simp] theorem x_lst (m : TM (List D)) : tLst m = tb m fun ds => tA (ds.length ≤ most) (tp ds) := id rfl
@[simp] theorem x_fz (m : TM (List D)) : tFz m = tb m fun ds => tp (.lst ds) := id rfl
@[simp] theorem x_Bf (o : List D → Option α) (m : TM (List D)) : tBf o m = tb m fun ds => tO (o ds) := id rfl
@[simp] theorem x_int (m : TM D) : tInt m = tb m fun d => tb (tO (unInt d)) fun i => tp (some i) := id rfl
@[simp] theorem x_cut (a : TM D) (lo hi : TM (Option Int)) : tCut a lo hi = tb a fun d => tb lo fun l => tb hi fun h => tO (cutD d l h) := id rfl
@[simp] theorem x_row (m : TM D) : tRow m = tb m fun d => tO (rowD d) := id rfl
@[simp] theorem x_MT (m : TM D) : tMT m = tb m fun d => tO (unBl d) := id rfl
@[simp] theorem x_tru (m : TM D) : tTru m = tb m fun d => tO (truB d) := id rfl
@[simp] theorem x_ttAnd (a b : TM Bool) : ttAnd a b = tb a fun k => if k then b else tp false := id rfl
@[simp] theorem x_ttOr (a b : TM Bool) : ttOr a b = tb a fun k => if k then tp true else b := id rfl
@[simp] theorem x_ttNot (a : TM Bool) : ttNot a = tb a fun k => tp (!k) := id rfl
@[simp] theorem x_isT (ns : List String) (m : TM D) : tIsT ns m = tb m fun d => tO (isTB ns d) := id rfl
@[simp] theorem x_unL (m : TM D) : tUnL m = tb m fun d => tO (unL d) := id rfl
@[simp] theorem x_lend (ok : α → Bool) (m : TM α) : tLend ok m = tb m fun a => tA (ok a = true) (tp a) := id rfl
@[simp] theorem x_comp {σ : Type} (it : TM (List D)) (tg : D → TM σ) (tt : σ → TM Bool) (te : σ → TM D) : compT it tg tt te = tb it fun ds => tA (ds.length ≤ most) (tNX (compL tg tt te ds)) := id rfl
@[simp] theorem x_for {σ : Type} (it : TM (List D)) (s : σ) (body : D → σ → TM σ) : forT it s body = tb it fun ds => tA (ds.length ≤ most) (forL body ds s) := id rfl
@[simp] theorem x_forX {σ : Type} (it : TM (List D)) (s : σ) (body : D → σ → TM (Lx σ)) : forX it s body = tb it fun ds => tA (ds.length ≤ most) (forXL body ds s) := id rfl
@[simp] theorem x_app (xs : List D) (m : TM D) : tApp xs m = tb m fun d => tA (xs.length < most) (tp (xs ++ [d])) := id rfl
@[simp] theorem x_ext (xs : List D) (m : TM D) : tExt xs m = tb m fun d => tO (extC d xs) := id rfl
@[simp] theorem x_sub (xs : List D) (ix : TM D) (d : D) : tSub xs ix d = tb ix fun i => tO (setIx d i xs) := id rfl
def m2 {τ : Type} (u : D → D → TM τ) (l : List D) : TM τ := match l with
  | [d, e] => u d e
  | _ => tBad
def m3 {τ : Type} (u : D → D → D → TM τ) (l : List D) : TM τ := match l with
  | [d, e, h] => u d e h
  | _ => tBad
@[simp] theorem x_P2 {τ : Type} (tm : TM (List D)) (u : D → D → TM τ) : tP2 tm u = tb tm (m2 u) := id rfl
@[simp] theorem x_P3 {τ : Type} (tm : TM (List D)) (u : D → D → D → TM τ) : tP3 tm u = tb tm (m3 u) := id rfl
@[simp] theorem x_m2 {τ : Type} (u : D → D → TM τ) (a b : D) : m2 u [a, b] = u a b := id rfl
@[simp] theorem x_m3 {τ : Type} (u : D → D → D → TM τ) (a b c : D) : m3 u [a, b, c] = u a b c := id rfl
@[simp] theorem d_unInt (i : Int) : unInt (.int i) = some i := id rfl
@[simp] theorem d_unL (l : List D) : unL (.lst l) = some l := id rfl
@[simp] theorem p_fin {σ τ : Type} (s : σ) (fr : D → TM τ) (fs : σ → TM τ) : tFin (.go s) fr fs = fs s := id rfl
@[simp] theorem p_finr {σ τ : Type} (d : D) (fr : D → TM τ) (fs : σ → TM τ) : tFin (.rt d) fr fs = fr d := id rfl
@[simp] theorem p_finb {σ τ : Type} (s : σ) (fr : D → TM τ) (fs : σ → TM τ) : tFin (.br s) fr fs = fs s := id rfl
@[simp] theorem p_unTup2 (a b : D) : unTup 2 (.tup [a, b]) = some [a, b] := id rfl
@[simp] theorem p_unTup3 (a b c : D) : unTup 3 (.tup [a, b, c]) = some [a, b, c] := id rfl
@[simp] theorem p_tgCons {σ ρ : Type} (a : D → TM σ) (b : σ → List D → TM ρ) (d : D) (r : List D) : tgCons a b (d :: r) = tb (a d) fun s => tb (b s r) fun u => tp (s, u) := id rfl
@[simp] theorem p_tgNil : tgNil [] = tp () := id rfl
@[simp] theorem p_u0 (t : TM D) : u0 t [] = t := id rfl
@[simp] theorem p_u1 (t : D → TM D) (a : D) : u1 t [a] = t a := id rfl
@[simp] theorem p_u2 (t : D → D → TM D) (a b : D) : u2 t [a, b] = t a b := id rfl
@[simp] theorem p_u3 (t : D → D → D → TM D) (a b c : D) : u3 t [a, b, c] = t a b c := id rfl
@[simp] theorem p_u4 (t : D → D → D → D → TM D) (a b c d : D) : u4 t [a, b, c, d] = t a b c d := id rfl
@[simp] theorem p_u5 (t : D → D → D → D → D → TM D) (a b c d e : D) : u5 t [a, b, c, d, e] = t a b c d e := id rfl
@[simp] theorem most_eq : most = 100000 := id rfl
@[simp] theorem p_ordL0 {α : Type} (l : List α) : ordL [] l = [] := id rfl
/-! what holds of a term -/
theorem h_tp (a : α) (P : α → Prop) (E : XP) : tp a P E = P a := rfl
theorem h_tb (m : TM α) (f : α → TM β) (P : β → Prop) (E : XP) : tb m f P E = m (fun a => f a P E) E := rfl
theorem h_tA (p : Prop) (m : TM α) (P : α → Prop) (E : XP) : tA p m P E = (p ∧ m P E) := rfl
theorem h_NX (m : TM α) (P : α → Prop) (E : XP) : tNX m P E = m P fun _ _ => False := rfl
/-! data -/
@[simp] theorem d_add (i j : Int) : addD (.int i) (.int j) = some (.int (i + j)) := id rfl
@[simp] theorem d_sub (i j : Int) : subD (.int i) (.int j) = some (.int (i - j)) := id rfl
@[simp] theorem d_neg (i : Int) : negD (.int i) = some (.int (-i)) := id rfl
@[simp] theorem d_lt (i j : Int) : ltD (.int i) (.int j) = some (.bl (decide (i < j))) := id rfl
@[simp] theorem d_le (i j : Int) : leD (.int i) (.int j) = some (.bl (decide (i ≤ j))) := id rfl
@[simp] theorem d_gt (i j : Int) : gtD (.int i) (.int j) = some (.bl (decide (j < i))) := id rfl
@[simp] theorem d_ge (i j : Int) : geD (.int i) (.int j) = some (.bl (decide (j ≤ i))) := id rfl
@[simp] theorem d_eqi (i j : Int) : eqD (.int i) (.int j) = some (.bl (decide (i = j))) := eq_int i j
@[simp] theorem d_nei (i j : Int) : neD (.int i) (.int j) = some (.bl (!decide (i = j))) := ne_int i j
@[simp] theorem d_eqb (i j : Bool) : eqD (.bl i) (.bl j) = some (.bl (i == j)) := eq_bl i j
@[simp] theorem d_neb (i j : Bool) : neD (.bl i) (.bl j) = some (.bl (!(i == j))) := by cases i <;> cases j <;> rfl
@[simp] theorem d_trub (b : Bool) : truB (.bl b) = some b := id rfl
@[simp] theorem d_trui (i : Int) : truB (.int i) = some (i != 0) := id rfl
@[simp] theorem d_unBl (b : Bool) : unBl (.bl b) = some b := id rfl
@[simp] theorem d_len (ds : List D) : lenB [.tup ds] = some (.int ds.length) := id rfl
@[simp] theorem d_lenl (ds : List D) : lenB [.lst ds] = some (.int ds.length) := id rfl
@[simp] theorem d_lens (ds : List D) : lenB [.scr ds] = some (.int ds.length) := id rfl
@[simp] theorem d_row (ds : List D) : rowD (.tup ds) = some ds := id rfl
@[simp] theorem d_rowl (ds : List D) : rowD (.lst ds) = some ds := id rfl
@[simp] theorem d_tupB (ds : List D) : tupB [.lst ds] = some (.tup ds) := id rfl
@[simp] theorem d_tupB' (ds : List D) : tupB [.tup ds] = some (.tup ds) := id rfl
@[simp] theorem d_listB (ds : List D) : listB [.lst ds] = some ds := id rfl
@[simp] theorem d_listB' (ds : List D) : listB [.tup ds] = some ds := id rfl
@[simp] theorem d_intB (i : Int) : intB [.int i] = some (.int i) := id rfl
@[simp] theorem d_absB (i : Int) : absB [.int i] = some (.int (i.natAbs : Int)) := by
  show some (D.int (if i < 0 then -i else i)) = _
  congr 2
  split <;> omega
@[simp] theorem d_max2 (i j : Int) : max2B [.int i, .int j] = some (.int (if j > i then j else i)) := id rfl
@[simp] theorem d_min2 (i j : Int) : min2B [.int i, .int j] = some (.int (if j < i then j else i)) := id rfl
@[simp] theorem d_gcd (i j : Int) : gcdB [.int i, .int j] = some (.int (Nat.gcd i.natAbs j.natAbs : Nat)) := id rfl
@[simp] theorem d_isN_non : isNoneD .non .non = some (.bl true) := id rfl
@[simp] theorem d_isN_i (i : Int) : isNoneD (.int i) .non = some (.bl false) := id rfl
@[simp] theorem d_notN_i (i : Int) : notNoneD (.int i) .non = some (.bl true) := id rfl
@[simp] theorem d_isN_b (i : Bool) : isNoneD (.bl i) .non = some (.bl false) := id rfl
@[simp] theorem d_notN_b (i : Bool) : notNoneD (.bl i) .non = some (.bl true) := id rfl
@[simp] theorem d_isN_t (i : List D) : isNoneD (.tup i) .non = some (.bl false) := id rfl
@[simp] theorem d_notN_t (i : List D) : notNoneD (.tup i) .non = some (.bl true) := id rfl
@[simp] theorem d_isN_l (i : List D) : isNoneD (.lst i) .non = some (.bl false) := id rfl
@[simp] theorem d_notN_l (i : List D) : notNoneD (.lst i) .non = some (.bl true) := id rfl
@[simp] theorem d_isN_s (i : Str) : isNoneD (.str i) .non = some (.bl false) := id rfl
@[simp] theorem d_notN_s (i : Str) : notNoneD (.str i) .non = some (.bl true) := id rfl
@[simp] theorem d_notN_non : notNoneD .non .non = some (.bl false) := id rfl
@[simp] theorem isNon_int (i : Int) : isNon (.int i) = false := id rfl
@[simp] theorem isNon_tup (i : List D) : isNon (.tup i) = false := id rfl
@[simp] theorem isNon_lst (i : List D) : isNon (.lst i) = false := id rfl
@[simp] theorem isNon_non : isNon .non = true := id rfl
@[simp] theorem d_ix0 (a : D) (l : List D) : ixD (.tup (a :: l)) (.int 0) = some a := by
  show L2.atI (a :: l) 0 = _
  exact atI_nat (j := 0) rfl
@[simp] theorem d_ix1 (a b : D) (l : List D) : ixD (.tup (a :: b :: l)) (.int 1) = some b := by
  show L2.atI (a :: b :: l) 1 = _
  exact atI_nat (j := 1) rfl
@[simp] theorem d_ix2 (a b c : D) (l : List D) : ixD (.tup (a :: b :: c :: l)) (.int 2) = some c := by
  show L2.atI (a :: b :: c :: l) 2 = _
  exact atI_nat (j := 2) rfl
@[simp] theorem d_ixl0 (a : D) (l : List D) : ixD (.lst (a :: l)) (.int 0) = some a := by
  show L2.atI (a :: l) 0 = _
  exact atI_nat (j := 0) rfl
@[simp] theorem d_ixl1 (a b : D) (l : List D) : ixD (.lst (a :: b :: l)) (.int 1) = some b := by
  show L2.atI (a :: b :: l) 1 = _
  exact atI_nat (j := 1) rfl
theorem d_ix {ds : List D} {i : Nat} {x : D} (h : ds[i]? = some x) : ixD (.tup ds) (.int (i : Int)) = some x := ix_nat (by omega) (by rw [Int.toNat_natCast]; exact h)
theorem d_ixl {ds : List D} {i : Nat} {x : D} (h : ds[i]? = some x) : ixD (.lst ds) (.int (i : Int)) = some x := ix_natL (by omega) (by rw [Int.toNat_natCast]; exact h)
theorem d_ixm {α : Type} {xs : List α} {f : α → D} {i : Nat} (h : i < xs.length) : ixD (.tup (xs.map f)) (.int (i : Int)) = some (f xs[i]) := d_ix (by rw [List.getElem?_map, List.getElem?_eq_getElem h]; rfl)
theorem d_ixml {α : Type} {xs : List α} {f : α → D} {i : Nat} (h : i < xs.length) : ixD (.lst (xs.map f)) (.int (i : Int)) = some (f xs[i]) := d_ixl (by rw [List.getElem?_map, List.getElem?_eq_getElem h]; rfl)
theorem d_ixlast {α : Type} {xs : List α} {f : α → D} (h : xs ≠ []) : ixD (.tup (xs.map f)) (.int (-1)) = some (f (xs.getLast h)) := by
  show L2.atI (xs.map f) (-1) = _
  have := atI_last (xs.dropLast.map f) (f (xs.getLast h))
  rw [show xs.dropLast.map f ++ [f (xs.getLast h)] = xs.map f by rw [← List.map_singleton, ← List.map_append, List.dropLast_concat_getLast]] at this
  exact this
theorem d_ixlastl {α : Type} {xs : List α} {f : α → D} (h : xs ≠ []) : ixD (.lst (xs.map f)) (.int (-1)) = some (f (xs.getLast h)) := d_ixlast h
theorem d_range1 {n : Nat} (h : n ≤ 1000000) : range1 [.int (n : Int)] = some ((List.range n).map fun i : Nat => .int (i : Int)) := by
  unfold range1
  simp only
  rw [if_pos (show rgOk (n : Int) = true from decide_eq_true ⟨by omega, by omega⟩), Int.toNat_natCast]
  unfold rgD
  congr 1
  apply List.map_congr_left
  intro i _
  rw [Int.zero_add]
theorem d_enum (ds : List D) : enum1 [.tup ds] = some (enumD ds) := rfl
theorem d_add_tup {a b : List D} (h : a.length + b.length ≤ 100000) : addD (.tup a) (.tup b) = some (.tup (a ++ b)) := by
  show (if decide (a.length + b.length ≤ most) then _ else _) = _
  rw [if_pos (decide_eq_true (show a.length + b.length ≤ most from h))]
theorem d_add_lst {a b : List D} (h : a.length + b.length ≤ 100000) : addD (.lst a) (.lst b) = some (.lst (a ++ b)) := by
  show (if decide (a.length + b.length ≤ most) then _ else _) = _
  rw [if_pos (decide_eq_true (show a.length + b.length ≤ most from h))]
theorem enum_map {α : Type} (xs : List α) (f : α → D) : enumD (xs.map f) = (List.range xs.length).map fun i => .tup [.int (i : Nat), (xs.map f).getD i .non] := by unfold enumD; rw [List.length_map]
end
section
variable {α σ : Type} {E : XP}
/-! walks -/
theorem compL_map (enc : α → D) (g : α → D) (tg : D → TM σ) (tt : σ → TM Bool) (te : σ → TM D) : ∀ (xs : List α), (∀ x ∈ xs, (tb (tg (enc x)) fun u => tb (tt u) fun k => if k then tb (te u) fun y => tp (some y) else tp none) = tp (some (g x))) → compL tg tt te (xs.map enc) = tp (xs.map g)
  | [], _ => rfl
  | x :: xs, h => by
    have ih := compL_map enc g tg tt te xs fun y hy => h y (List.mem_cons_of_mem _ hy)
    have h1 := h x (List.mem_cons_self ..)
    show (tb (tg (enc x)) fun u => tb (tt u) fun k => if k then tb (te u) fun y => tb (compL tg tt te (xs.map enc)) fun l => tp (y :: l) else compL tg tt te (xs.map enc)) = _
    rw [ih]
    have h2 : (tb (tg (enc x)) fun u => tb (tt u) fun k => if k then tb (te u) fun y => tb (tp (xs.map g)) fun l => tp (y :: l) else tp (xs.map g)) = tb (tb (tg (enc x)) fun u => tb (tt u) fun k => if k then tb (te u) fun y => tp (some y) else tp none) fun o => match o with
      | some y => tp (y :: xs.map g)
      | none => tp (xs.map g) := by
      funext P E
      show tg (enc x) _ E = tg (enc x) _ E
      congr 1
      funext u
      show tt u _ E = tt u _ E
      congr 1
      funext k
      cases k <;> rfl
    rw [h2, h1]
    rfl
theorem compL_fm (enc : α → D) (g : α → Option D) (tg : D → TM σ) (tt : σ → TM Bool) (te : σ → TM D) : ∀ (xs : List α), (∀ x ∈ xs, (tb (tg (enc x)) fun u => tb (tt u) fun k => if k then tb (te u) fun y => tp (some y) else tp none) = tp (g x)) → compL tg tt te (xs.map enc) = tp (xs.filterMap g)
  | [], _ => rfl
  | x :: xs, h => by
    have ih := compL_fm enc g tg tt te xs fun y hy => h y (List.mem_cons_of_mem _ hy)
    have h1 := h x (List.mem_cons_self ..)
    show (tb (tg (enc x)) fun u => tb (tt u) fun k => if k then tb (te u) fun y => tb (compL tg tt te (xs.map enc)) fun l => tp (y :: l) else compL tg tt te (xs.map enc)) = _
    rw [ih]
    have h2 : (tb (tg (enc x)) fun u => tb (tt u) fun k => if k then tb (te u) fun y => tb (tp (xs.filterMap g)) fun l => tp (y :: l) else tp (xs.filterMap g)) = tb (tb (tg (enc x)) fun u => tb (tt u) fun k => if k then tb (te u) fun y => tp (some y) else tp none) fun o => match o with
      | some y => tp (y :: xs.filterMap g)
      | none => tp (xs.filterMap g) := by
      funext P E
      show tg (enc x) _ E = tg (enc x) _ E
      congr 1
      funext u
      show tt u _ E = tt u _ E
      congr 1
      funext k
      cases k <;> rfl
    rw [h2, h1, List.filterMap_cons]
    cases g x <;> rfl
/-- by what holds of each -/
theorem compL_any (R : D → Prop) (tg : D → TM σ) (te : σ → TM D) : ∀ (ds : List D) (P : List D → Prop), (∀ d ∈ ds, ∀ P' : D → Prop, (∀ y, R y → P' y) → (tb (tg d) te) P' E) → (∀ l, l.length = ds.length → (∀ y ∈ l, R y) → P l) → compL tg (fun _ => tp true) te ds P E
  | [], P, _, q => q [] rfl fun _ h => nomatch h
  | d :: ds, P, h, q => by
    show (tb (tg d) te) (fun y => compL tg (fun _ => tp true) te ds (fun l => P (y :: l)) E) E
    exact h d (List.mem_cons_self ..) _ fun y hy => compL_any R tg te ds _ (fun e he => h e (List.mem_cons_of_mem _ he)) fun l hl hr => q (y :: l) (by simp [hl]) fun z hz => by
      rcases List.mem_cons.mp hz with rfl | hz
      · exact hy
      · exact hr z hz
theorem forL_inv (I : List D → σ → Prop) (body : D → σ → TM σ) : ∀ (ds : List D) (s : σ) (P : σ → Prop), (∀ d ds s, I (d :: ds) s → ∀ P' : σ → Prop, (∀ s', I ds s' → P' s') → body d s P' E) → I ds s → (∀ s, I [] s → P s) → forL body ds s P E
  | [], s, P, _, i, q => q s i
  | d :: ds, s, P, h, i, q => h d ds s i _ fun s' i' => forL_inv I body ds s' P h i' q
/-- all turns go on -/
theorem forXL_inv (I : List D → σ → Prop) (body : D → σ → TM (Lx σ)) : ∀ (ds : List D) (s : σ) (P : Lx σ → Prop), (∀ d ds s, I (d :: ds) s → ∀ P' : Lx σ → Prop, (∀ s', I ds s' → P' (.go s')) → body d s P' E) → I ds s → (∀ s, I [] s → P (.go s)) → forXL body ds s P E
  | [], s, P, _, i, q => q s i
  | d :: ds, s, P, h, i, q => h d ds s i _ fun s' i' => forXL_inv I body ds s' P h i' q
theorem forL_fold {τ : Type} (enc : α → D) (es : τ → σ) (f : τ → α → τ) (I : τ → Prop) (body : D → σ → TM σ) : ∀ (xs : List α) (s : τ), (∀ x ∈ xs, ∀ s, I s → body (enc x) (es s) = tp (es (f s x)) ∧ I (f s x)) → I s → forL body (xs.map enc) (es s) = tp (es (xs.foldl f s))
  | [], s, _, _ => rfl
  | x :: xs, s, h, i => by
    obtain ⟨h1, h2⟩ := h x (List.mem_cons_self ..) s i
    show tb (body (enc x) (es s)) _ = _
    rw [h1, p_tb]
    exact forL_fold enc es f I body xs (f s x) (fun y hy => h y (List.mem_cons_of_mem _ hy)) h2
end
/-! isinstance -/
@[simp] theorem is_int_int (i : Int) : isB [.int i, .opq (.ty "int")] = some (.bl true) := isB_int rfl
@[simp] theorem is_int_bl (i : Bool) : isB [.bl i, .opq (.ty "int")] = some (.bl true) := isB_int rfl
@[simp] theorem is_int_tup (i : List D) : isB [.tup i, .opq (.ty "int")] = some (.bl false) := isB_int rfl
@[simp] theorem is_int_lst (i : List D) : isB [.lst i, .opq (.ty "int")] = some (.bl false) := isB_int rfl
@[simp] theorem is_int_str (i : Str) : isB [.str i, .opq (.ty "int")] = some (.bl false) := isB_int rfl
@[simp] theorem is_int_non : isB [.non, .opq (.ty "int")] = some (.bl false) := isB_int rfl
@[simp] theorem is_bl_int (i : Int) : isB [.int i, .opq (.ty "bool")] = some (.bl false) := isB_bool rfl
@[simp] theorem is_bl_bl (i : Bool) : isB [.bl i, .opq (.ty "bool")] = some (.bl true) := isB_bool rfl
@[simp] theorem is_bl_tup (i : List D) : isB [.tup i, .opq (.ty "bool")] = some (.bl false) := isB_bool rfl
@[simp] theorem is_bl_lst (i : List D) : isB [.lst i, .opq (.ty "bool")] = some (.bl false) := isB_bool rfl
@[simp] theorem is_bl_str (i : Str) : isB [.str i, .opq (.ty "bool")] = some (.bl false) := isB_bool rfl
@[simp] theorem is_bl_non : isB [.non, .opq (.ty "bool")] = some (.bl false) := isB_bool rfl
@[simp] theorem is_tup_int (i : Int) : isB [.int i, .opq (.ty "tuple")] = some (.bl false) := isB_tup rfl
@[simp] theorem is_tup_bl (i : Bool) : isB [.bl i, .opq (.ty "tuple")] = some (.bl false) := isB_tup rfl
@[simp] theorem is_tup_tup (i : List D) : isB [.tup i, .opq (.ty "tuple")] = some (.bl true) := isB_tup rfl
@[simp] theorem is_tup_lst (i : List D) : isB [.lst i, .opq (.ty "tuple")] = some (.bl false) := isB_tup rfl
@[simp] theorem is_tup_str (i : Str) : isB [.str i, .opq (.ty "tuple")] = some (.bl false) := isB_tup rfl
@[simp] theorem is_tup_non : isB [.non, .opq (.ty "tuple")] = some (.bl false) := isB_tup rfl
@[simp] theorem is_str_int (i : Int) : isB [.int i, .opq (.ty "str")] = some (.bl false) := isB_str rfl
@[simp] theorem is_str_bl (i : Bool) : isB [.bl i, .opq (.ty "str")] = some (.bl false) := isB_str rfl
@[simp] theorem is_str_tup (i : List D) : isB [.tup i, .opq (.ty "str")] = some (.bl false) := isB_str rfl
@[simp] theorem is_str_lst (i : List D) : isB [.lst i, .opq (.ty "str")] = some (.bl false) := isB_str rfl
@[simp] theorem is_str_str (i : Str) : isB [.str i, .opq (.ty "str")] = some (.bl true) := isB_str rfl
@[simp] theorem is_str_non : isB [.non, .opq (.ty "str")] = some (.bl false) := isB_str rfl
theorem isB_list {d : D} (h : hasTy d = true) : isB [d, .opq (.ty "list")] = some (.bl (isLstD d)) :=
  isB_of (p := isLstD) h (by decide +kernel) (fun _ e => by subst e; exact (show kitB "bool" "list" = some false by decide +kernel)) (fun _ e => by subst e; exact (show kitB "int" "list" = some false by decide +kernel)) (fun _ e => by subst e; exact (show kitB "str" "list" = some false by decide +kernel)) (fun _ e => by subst e; exact (show kitB "tuple" "list" = some false by decide +kernel)) (fun _ e => by subst e; exact (show kitB "list" "list" = some true by decide +kernel)) (fun _ e => by subst e; exact (show kitB "dict" "list" = some false by decide +kernel))
@[simp] theorem is_lst_int (i : Int) : isB [.int i, .opq (.ty "list")] = some (.bl false) := isB_list rfl
@[simp] theorem is_lst_bl (i : Bool) : isB [.bl i, .opq (.ty "list")] = some (.bl false) := isB_list rfl
@[simp] theorem is_lst_tup (i : List D) : isB [.tup i, .opq (.ty "list")] = some (.bl false) := isB_list rfl
@[simp] theorem is_lst_lst (i : List D) : isB [.lst i, .opq (.ty "list")] = some (.bl true) := isB_list rfl
@[simp] theorem is_lst_str (i : Str) : isB [.str i, .opq (.ty "list")] = some (.bl false) := isB_list rfl
@[simp] theorem is_lst_non : isB [.non, .opq (.ty "list")] = some (.bl false) := isB_list rfl
/-! what is compared as a whole -/
def niceB : Nat → D → Bool
  | 0, _ => false
  | n + 1, d => match d with
    | .non => true
    | .int _ => true
    | .str x => (PyData.str x).canLay0
    | .tup ds => ds.all (niceB n)
    | .lst ds => ds.all (niceB n)
    | _ => false
theorem nice_py : ∀ (n : Nat) (d : D), niceB n d = true → ∃ p, toPy d = some p ∧ p.canLay0 = true ∧ p.depth ≤ n
  | 0, d, h => by cases h
  | n + 1, d, h => by
    have hl : ∀ ds : List D, ds.all (niceB n) = true → ∃ ps, toPys ds = some ps ∧ PyData.canLayAll0 ps = true ∧ PyData.depthAll ps ≤ n := by
      intro ds
      induction ds with
      | nil => exact fun _ => ⟨[], rfl, rfl, Nat.zero_le _⟩
      | cons d ds ih =>
        intro h
        rw [List.all_cons, Bool.and_eq_true] at h
        obtain ⟨p, a1, a2, a3⟩ := nice_py n d h.1
        obtain ⟨ps, b1, b2, b3⟩ := ih h.2
        refine ⟨p :: ps, by unfold toPys; rw [a1, b1], by unfold PyData.canLayAll0; rw [a2, b2]; rfl, ?_⟩
        unfold PyData.depthAll
        omega
    cases d <;> try (cases h; done)
    · exact ⟨_, rfl, rfl, by simp [PyData.depth]⟩
    · exact ⟨_, rfl, rfl, by simp [PyData.depth]⟩
    · exact ⟨_, rfl, h, by simp [PyData.depth]⟩
    · rename_i ds
      obtain ⟨ps, b1, b2, b3⟩ := hl ds h
      exact ⟨.tuple ps, by unfold toPy; rw [b1]; rfl, by unfold PyData.canLay0; exact b2, by simp only [PyData.depth]; omega⟩
    · rename_i ds
      obtain ⟨ps, b1, b2, b3⟩ := hl ds h
      exact ⟨.list ps, by unfold toPy; rw [b1]; rfl, by unfold PyData.canLay0; exact b2, by simp only [PyData.depth]; omega⟩
theorem eqv_nice : ∀ (n : Nat) (d e : D) (p q : PyData), niceB n d = true → niceB n e = true → toPy d = some p → toPy e = some q → (PyData.eqv p q = true ↔ d = e)
  | 0, d, e, p, q, h, _, _, _ => by cases h
  | n + 1, d, e, p, q, h1, h2, hp, hq => by
    have hl : ∀ (ds es : List D) (ps qs : List PyData), ds.all (niceB n) = true → es.all (niceB n) = true → toPys ds = some ps → toPys es = some qs → (PyData.eqvAll ps qs = true ↔ ds = es) := by
      intro ds
      induction ds with
      | nil =>
        intro es ps qs _ _ h3 h4
        cases h3
        cases es with
        | nil => cases h4; simp [PyData.eqvAll]
        | cons e es =>
          unfold toPys at h4
          split at h4
          · cases h4; simp [PyData.eqvAll]
          · cases h4
      | cons d ds ih =>
        intro es ps qs h1 h2 h3 h4
        rw [List.all_cons, Bool.and_eq_true] at h1
        unfold toPys at h3
        split at h3
        · rename_i p ps hp hps
          cases h3
          cases es with
          | nil => cases h4; simp [PyData.eqvAll]
          | cons e es =>
            rw [List.all_cons, Bool.and_eq_true] at h2
            unfold toPys at h4
            split at h4
            · rename_i q qs hq hqs
              cases h4
              unfold PyData.eqvAll
              rw [Bool.and_eq_true, eqv_nice n d e p q h1.1 h2.1 hp hq, ih es ps qs h1.2 h2.2 hps hqs, List.cons.injEq]
            · cases h4
        · cases h3
    have key : ∀ (d : D) (p : PyData), niceB (n + 1) d = true → toPy d = some p → (d = .non ∧ p = .none) ∨ (∃ i, d = .int i ∧ p = .int i) ∨ (∃ x, d = .str x ∧ p = .str x) ∨ (∃ ds ps, d = .tup ds ∧ p = .tuple ps ∧ ds.all (niceB n) = true ∧ toPys ds = some ps) ∨ (∃ ds ps, d = .lst ds ∧ p = .list ps ∧ ds.all (niceB n) = true ∧ toPys ds = some ps) := by
      intro d p h hp
      cases d <;> try (cases h; done)
      · cases hp; exact .inl ⟨rfl, rfl⟩
      · cases hp; exact .inr (.inl ⟨_, rfl, rfl⟩)
      · cases hp; exact .inr (.inr (.inl ⟨_, rfl, rfl⟩))
      · rename_i ds
        unfold toPy at hp
        cases g1 : toPys ds with
        | none => rw [g1] at hp; cases hp
        | some ps => rw [g1] at hp; cases hp; exact .inr (.inr (.inr (.inl ⟨_, _, rfl, rfl, h, g1⟩)))
      · rename_i ds
        unfold toPy at hp
        cases g1 : toPys ds with
        | none => rw [g1] at hp; cases hp
        | some ps => rw [g1] at hp; cases hp; exact .inr (.inr (.inr (.inr ⟨_, _, rfl, rfl, h, g1⟩)))
    rcases key d p h1 hp with ⟨rfl, rfl⟩ | ⟨i, rfl, rfl⟩ | ⟨x, rfl, rfl⟩ | ⟨ds, ps, rfl, rfl, a1, a2⟩ | ⟨ds, ps, rfl, rfl, a1, a2⟩ <;>
    rcases key e q h2 hq with ⟨rfl, rfl⟩ | ⟨j, rfl, rfl⟩ | ⟨y, rfl, rfl⟩ | ⟨es, qs, rfl, rfl, b1, b2⟩ | ⟨es, qs, rfl, rfl, b1, b2⟩ <;>
    first
      | (simp [PyData.eqv]; done)
      | (have := hl ds es ps qs a1 b1 a2 b2; simp only [PyData.eqv, this, D.tup.injEq, D.lst.injEq])
theorem eq_nice {d e : D} (h1 : niceB 60 d = true) (h2 : niceB 60 e = true) : ∃ b, eqD d e = some (.bl b) ∧ neD d e = some (.bl (!b)) ∧ (b = true ↔ d = e) := by
  obtain ⟨p, a1, a2, a3⟩ := nice_py 60 d h1
  obtain ⟨q, b1, b2, b3⟩ := nice_py 60 e h2
  have hs : eqB d e = some (PyData.eqv p q) := by
    unfold eqB
    rw [a1, b1]
    simp only
    unfold SeqAt.shaped
    rw [a2, b2, decide_eq_true (show p.depth ≤ 64 by omega), decide_eq_true (show q.depth ≤ 64 by omega)]
    rfl
  refine ⟨PyData.eqv p q, ?_, ?_, eqv_nice 60 d e p q h1 h2 a1 b1⟩
  · unfold eqD; rw [hs]; rfl
  · unfold neD; rw [hs]; rfl
open Classical in
theorem d_eqn {d e : D} (h1 : niceB 60 d = true) (h2 : niceB 60 e = true) : eqD d e = some (.bl (decide (d = e))) := by
  obtain ⟨b, h, _, k⟩ := eq_nice h1 h2
  rw [h]
  congr 2
  cases b with
  | true => exact (decide_eq_true (k.mp rfl)).symm
  | false => exact (decide_eq_false fun z => by have := k.mpr z; cases this).symm
open Classical in
theorem d_nen {d e : D} (h1 : niceB 60 d = true) (h2 : niceB 60 e = true) : neD d e = some (.bl (!decide (d = e))) := by
  obtain ⟨b, _, h, k⟩ := eq_nice h1 h2
  rw [h]
  congr 3
  cases b with
  | true => exact (decide_eq_true (k.mp rfl)).symm
  | false => exact (decide_eq_false fun z => by have := k.mpr z; cases this).symm
end FL
/-! PL2: fractions -/
namespace FL
open PySem PySem.Spec L2
theorem pow_le (i j : Nat) (h : i ≤ j) : 2 ^ i ≤ 2 ^ j := Nat.pow_le_pow_right (by decide) h
def Sm (k : Nat) (q : Rat) : Prop := q.num.natAbs < 2 ^ k ∧ q.den < 2 ^ k
theorem Sm.mono {k j : Nat} {q : Rat} (h : Sm k q) (e : k ≤ j) : Sm j q := ⟨Nat.lt_of_lt_of_le h.1 (pow_le _ _ e), Nat.lt_of_lt_of_le h.2 (pow_le _ _ e)⟩
theorem lt_mul {i j x y : Nat} (h1 : x < 2 ^ i) (h2 : y < 2 ^ j) : x * y < 2 ^ (i + j) := by
  rw [Nat.pow_add]
  exact Nat.mul_lt_mul'' h1 h2
theorem sm_div {k : Nat} {n m : Int} (h0 : 0 < m) (h1 : n.natAbs < 2 ^ k) (h2 : m.natAbs < 2 ^ k) : Sm k (Rat.divInt n m) := by
  refine ⟨?_, ?_⟩
  · rw [Rat.num_divInt, Int.sign_eq_one_of_pos h0, Int.one_mul, Int.natAbs_ediv_of_dvd ?_]
    · exact Nat.lt_of_le_of_lt (Nat.div_le_self _ _) h1
    · exact Int.gcd_dvd_right ..
  · have := den_le (n := n) h0
    omega
theorem sm_add {j k : Nat} {a b : Rat} (ha : Sm j a) (hb : Sm k b) : Sm (j + k + 1) (a + b) := by
  rw [← add_fr]
  have d1 := a.den_pos
  have d2 := b.den_pos
  refine sm_div (Int.mul_pos (by omega) (by omega)) ?_ ?_
  · have h1 := lt_mul ha.1 hb.2
    have h2 := lt_mul hb.1 ha.2
    have h3 : (a.num * b.den + b.num * a.den).natAbs ≤ (a.num * b.den).natAbs + (b.num * a.den).natAbs := Int.natAbs_add_le ..
    rw [Int.natAbs_mul, Int.natAbs_mul, Int.natAbs_natCast, Int.natAbs_natCast] at h3
    rw [Nat.add_comm k j] at h2
    rw [Nat.pow_succ]
    omega
  · rw [Int.natAbs_mul, Int.natAbs_natCast, Int.natAbs_natCast]
    exact Nat.lt_of_lt_of_le (lt_mul ha.2 hb.2) (pow_le _ _ (by omega))
theorem sm_neg {k : Nat} {a : Rat} (h : Sm k a) : Sm k (-a) := ⟨by rw [Rat.neg_num, Int.natAbs_neg]; exact h.1, h.2⟩
theorem sm_sub {j k : Nat} {a b : Rat} (ha : Sm j a) (hb : Sm k b) : Sm (j + k + 1) (a - b) := by
  rw [Rat.sub_eq_add_neg]
  exact sm_add ha (sm_neg hb)
theorem sm_mul {j k : Nat} {a b : Rat} (ha : Sm j a) (hb : Sm k b) : Sm (j + k) (a * b) := by
  rw [← mul_fr]
  have d1 := a.den_pos
  have d2 := b.den_pos
  refine sm_div (Int.mul_pos (by omega) (by omega)) ?_ ?_
  · rw [Int.natAbs_mul]
    exact lt_mul ha.1 hb.1
  · rw [Int.natAbs_mul, Int.natAbs_natCast, Int.natAbs_natCast]
    exact lt_mul ha.2 hb.2
theorem sm_int {k : Nat} {i : Int} (h : i.natAbs < 2 ^ (k + 1)) : Sm (k + 1) (i : Rat) := ⟨h, by
  show 1 < 2 ^ (k + 1)
  have := Nat.one_le_two_pow (n := k)
  omega⟩
/-- a whole number of N-th parts, at most M of them either way -/
def Fx (N M : Nat) (q : Rat) : Prop := 0 < N ∧ ∃ n : Int, q = Rat.divInt n N ∧ n.natAbs ≤ M
theorem Fx.sm {N M k : Nat} {q : Rat} (h : Fx N M q) (h1 : N < 2 ^ k) (h2 : M < 2 ^ k) : Sm k q := by
  obtain ⟨h0, n, rfl, hn⟩ := h
  exact sm_div (by omega) (by omega) (by rw [Int.natAbs_natCast]; exact h1)
theorem Fx.up {N M M' : Nat} {q : Rat} (h : Fx N M q) (e : M ≤ M') : Fx N M' q := by
  obtain ⟨h0, n, e1, hn⟩ := h
  exact ⟨h0, n, e1, by omega⟩
theorem divInt_scale {n N c : Int} (hc : c ≠ 0) : Rat.divInt (c * n) (c * N) = Rat.divInt n N := Rat.divInt_mul_left hc
theorem Fx.lift {N M c : Nat} {q : Rat} (h : Fx N M q) (hc : 0 < c) : Fx (c * N) (c * M) q := by
  obtain ⟨h0, n, rfl, hn⟩ := h
  refine ⟨Nat.mul_pos hc h0, c * n, ?_, ?_⟩
  · rw [Int.natCast_mul, divInt_scale (by omega)]
  · rw [Int.natAbs_mul, Int.natAbs_natCast]
    exact Nat.mul_le_mul_left _ hn
theorem Fx.add {N M M' : Nat} {a b : Rat} (ha : Fx N M a) (hb : Fx N M' b) : Fx N (M + M') (a + b) := by
  obtain ⟨h0, n, rfl, hn⟩ := ha
  obtain ⟨_, m, rfl, hm⟩ := hb
  refine ⟨h0, n + m, ?_, by omega⟩
  rw [Rat.divInt_add_divInt _ _ (by omega) (by omega), ← Int.add_mul, Rat.divInt_mul_right (by omega)]
theorem Fx.neg {N M : Nat} {a : Rat} (ha : Fx N M a) : Fx N M (-a) := by
  obtain ⟨h0, n, rfl, hn⟩ := ha
  exact ⟨h0, -n, by rw [Rat.neg_divInt], by omega⟩
theorem Fx.sub {N M M' : Nat} {a b : Rat} (ha : Fx N M a) (hb : Fx N M' b) : Fx N (M + M') (a - b) := by
  rw [Rat.sub_eq_add_neg]
  exact ha.add hb.neg
theorem Fx.mul {N N' M M' : Nat} {a b : Rat} (ha : Fx N M a) (hb : Fx N' M' b) : Fx (N * N') (M * M') (a * b) := by
  obtain ⟨h0, n, rfl, hn⟩ := ha
  obtain ⟨h1, m, rfl, hm⟩ := hb
  refine ⟨Nat.mul_pos h0 h1, n * m, ?_, ?_⟩
  · rw [Rat.divInt_mul_divInt, Int.natCast_mul]
  · rw [Int.natAbs_mul]
    exact Nat.mul_le_mul hn hm
theorem Fx.int {N : Nat} (hN : 0 < N) (i : Int) : Fx N (N * i.natAbs) (i : Rat) := by
  refine ⟨hN, N * i, ?_, ?_⟩
  · have := divInt_scale (n := i) (N := 1) (c := N) (by omega)
    rw [Int.mul_one] at this
    rw [this]
    exact (Rat.num_divInt_den (i : Rat)).symm
  · rw [Int.natAbs_mul, Int.natAbs_natCast]
    exact Nat.le_refl _
theorem Fx.sum {N M : Nat} : ∀ {l : List Rat}, 0 < N → (∀ x ∈ l, Fx N M x) → Fx N (l.length * M) l.sum
  | [], h0, _ => ⟨h0, 0, by rw [Rat.zero_divInt]; rfl, by simp⟩
  | x :: l, h0, h => by
    rw [List.sum_cons, List.length_cons, Nat.succ_mul, Nat.add_comm]
    exact (h x (List.mem_cons_self ..)).add (Fx.sum h0 fun y hy => h y (List.mem_cons_of_mem _ hy))
theorem mul_sm {k : Nat} {x y : Int} (h1 : x.natAbs < 2 ^ k) (h2 : y.natAbs < 2 ^ k) (hk : k ≤ 4096 := by decide) : mulD (.int x) (.int y) = some (.int (x * y)) :=
  mul_ok (Nat.lt_of_lt_of_le h1 (pow_le _ _ hk)) (Nat.lt_of_lt_of_le h2 (pow_le _ _ hk))
theorem den_sm {k : Nat} {q : Rat} (h : Sm k q) : (q.den : Int).natAbs < 2 ^ k := by rw [Int.natAbs_natCast]; exact h.2
theorem dens {k : Nat} {a b : Rat} (ha : Sm k a) (hb : Sm k b) : 0 < ((a.den : Int) * b.den) ∧ ((a.den : Int) * b.den).natAbs < 2 ^ (k + k) := by
  have d1 := a.den_pos
  have d2 := b.den_pos
  refine ⟨Int.mul_pos (by omega) (by omega), ?_⟩
  rw [Int.natAbs_mul, Int.natAbs_natCast, Int.natAbs_natCast]
  exact lt_mul ha.2 hb.2
@[simp] theorem d_fr0 (a : Rat) : ixD (fr a) (.int 0) = some (.int a.num) := d_ix0 _ _
@[simp] theorem d_fr1 (a : Rat) : ixD (fr a) (.int 1) = some (.int (a.den : Int)) := d_ix1 _ _ _
theorem fr_int (i : Int) : D.tup [.int i, .int 1] = fr (i : Rat) := rfl
theorem fr_inj {a b : Rat} : fr a = fr b ↔ a = b := by
  constructor
  · intro h
    unfold fr at h
    injection h with h
    injection h with h1 h2
    injection h1 with h1
    injection h2 with h2
    injection h2 with h2
    exact Rat.ext h1 (by omega)
  · rintro rfl; rfl
theorem nice_fr (n : Nat) (a : Rat) : niceB (n + 2) (fr a) = true := by
  show ([D.int a.num, .int a.den].all (niceB (n + 1))) = true
  rfl
theorem nice_frs (n : Nat) (l : List Rat) : niceB (n + 3) (.tup (l.map fr)) = true := List.all_eq_true.mpr fun x hx => by
  obtain ⟨q, _, rfl⟩ := List.mem_map.mp hx
  exact nice_fr n q
theorem nice_frl (n : Nat) (l : List Rat) : niceB (n + 3) (.lst (l.map fr)) = true := List.all_eq_true.mpr fun x hx => by
  obtain ⟨q, _, rfl⟩ := List.mem_map.mp hx
  exact nice_fr n q
theorem d_eqfr (a b : Rat) : eqD (fr a) (fr b) = some (.bl (decide (a = b))) := by
  rw [d_eqn (nice_fr 58 a) (nice_fr 58 b)]
  congr 2
  exact decide_eq_decide.mpr fr_inj
theorem d_nefr (a b : Rat) : neD (fr a) (fr b) = some (.bl (!decide (a = b))) := by
  rw [d_nen (nice_fr 58 a) (nice_fr 58 b)]
  congr 3
  exact decide_eq_decide.mpr fr_inj
theorem frs_inj {a b : List Rat} : a.map fr = b.map fr ↔ a = b := by
  constructor
  · intro h
    exact (List.map_inj_right (f := fr) fun _ _ => fr_inj.mp).mp h
  · rintro rfl; rfl
theorem d_eqfrs (a b : List Rat) : eqD (.tup (a.map fr)) (.tup (b.map fr)) = some (.bl (decide (a = b))) := by
  rw [d_eqn (nice_frs 57 a) (nice_frs 57 b)]
  congr 2
  exact decide_eq_decide.mpr (by rw [D.tup.injEq, frs_inj])
theorem lt_fr (a b : Rat) : a.num * b.den < b.num * a.den ↔ a < b := (Rat.lt_iff ..).symm
theorem gcd_one (q : Rat) : Nat.gcd q.num.natAbs q.den = 1 := q.reduced
theorem div_pos_ok {i j : Int} (h : 0 < j) (h2 : j.natAbs < 2 ^ 4096) : divD (.int i) (.int j) = some (.int (i / j)) := div_ok h h2
/-- a pair in lowest terms -/
theorem pair_fr {n m : Int} (h0 : 0 < m) (h1 : Nat.gcd n.natAbs m.natAbs = 1) : D.tup [.int n, .int m] = fr (Rat.divInt n m) := by
  rw [← part_fr h0, h1]
  simp
end FL
/-! PL3: terms opened; what is drawn -/
namespace FL
open PySem PySem.Spec L2
section
variable {α β : Type} {E : XP}
theorem h_ite {c : Prop} [Decidable c] (a b : TM α) (P : α → Prop) (E : XP) : (if c then a else b) P E = if c then a P E else b P E := by split <;> rfl
theorem h_tbA {p : Prop} (m : TM α) (f : α → TM β) (P : β → Prop) (E : XP) : tb (tA p m) f P E = (p ∧ tb m f P E) := rfl
theorem h_tbNX (m : TM α) (f : α → TM β) (P : β → Prop) (E : XP) : tb (tNX m) f P E = m (fun a => f a P E) fun _ _ => False := rfl
theorem unmap {α : Type} {enc : α → D} {G : α → Prop} : ∀ {l : List D}, (∀ y ∈ l, ∃ x, y = enc x ∧ G x) → ∃ xs : List α, l = xs.map enc ∧ (∀ x ∈ xs, G x) ∧ xs.length = l.length
  | [], _ => ⟨[], rfl, (fun _ h => nomatch h), rfl⟩
  | y :: l, h => by
    obtain ⟨x, rfl, g⟩ := h y (List.mem_cons_self ..)
    obtain ⟨xs, rfl, g2, g3⟩ := unmap fun y hy => h y (List.mem_cons_of_mem _ hy)
    exact ⟨x :: xs, rfl, fun z hz => by
      rcases List.mem_cons.mp hz with rfl | hz
      · exact g
      · exact g2 z hz, by simp⟩
theorem three {a b c : Int} {t : Int} (h0 : 0 ≤ t) (h1 : t < 3) {Q : Int → Prop} (qa : Q a) (qb : Q b) (qc : Q c) : ∃ v, ixD (.tup [.int a, .int b, .int c]) (.int t) = some (.int v) ∧ Q v := by
  rcases (by omega : t = 0 ∨ t = 1 ∨ t = 2) with rfl | rfl | rfl
  · exact ⟨_, rfl, qa⟩
  · exact ⟨_, rfl, qb⟩
  · exact ⟨_, rfl, qc⟩
theorem four {a b c d : Int} {t : Int} (h0 : 0 ≤ t) (h1 : t < 4) {Q : Int → Prop} (qa : Q a) (qb : Q b) (qc : Q c) (qd : Q d) : ∃ v, ixD (.tup [.int a, .int b, .int c, .int d]) (.int t) = some (.int v) ∧ Q v := by
  rcases (by omega : t = 0 ∨ t = 1 ∨ t = 2 ∨ t = 3) with rfl | rfl | rfl | rfl
  · exact ⟨_, rfl, qa⟩
  · exact ⟨_, rfl, qb⟩
  · exact ⟨_, rfl, qc⟩
  · exact ⟨_, rfl, qd⟩
theorem two {a b : D} {t : Int} (h0 : 0 ≤ t) (h1 : t < 2) {Q : D → Prop} (qa : Q a) (qb : Q b) : ∃ v, ixD (.tup [a, b]) (.int t) = some v ∧ Q v := by
  rcases (by omega : t = 0 ∨ t = 1) with rfl | rfl
  · exact ⟨_, rfl, qa⟩
  · exact ⟨_, rfl, qb⟩
theorem mul_i {x y : Int} (h1 : x.natAbs < 2 ^ 64) (h2 : y.natAbs < 2 ^ 64) : mulD (.int x) (.int y) = some (.int (x * y)) := mul_ok (small _ h1) (small _ h2)
theorem forL_foldI {σ τ : Type} (enc : α → D) (es : τ → σ) (f : τ → α → τ) (I : List α → τ → Prop) (body : D → σ → TM σ) : ∀ (xs : List α) (s : τ), (∀ x xs s, I (x :: xs) s → body (enc x) (es s) = tp (es (f s x)) ∧ I xs (f s x)) → I xs s → forL body (xs.map enc) (es s) = tp (es (xs.foldl f s))
  | [], s, _, _ => rfl
  | x :: xs, s, h, i => by
    obtain ⟨h1, h2⟩ := h x xs s i
    show tb (body (enc x) (es s)) _ = _
    rw [h1, p_tb]
    exact forL_foldI enc es f I body xs (f s x) h h2
theorem foldl_sum (l : List Rat) (a : Rat) : l.foldl (· + ·) a = a + l.sum := by
  induction l generalizing a with
  | nil => rw [List.foldl_nil, List.sum_nil, Rat.add_zero]
  | cons x l ih => rw [List.foldl_cons, ih, List.sum_cons]; grind
theorem Fx.sm' {N M k : Nat} {q : Rat} (h : Fx N M q) (h1 : N < 2 ^ k) (h2 : M < 2 ^ k) : Sm k q := h.sm h1 h2
@[simp] theorem fr_int' (i : Int) : D.tup [.int i, .int 1] = fr (i : Rat) := id rfl
@[simp] theorem isT_i (i : Int) : isTB ["tuple", "list"] (.int i) = some (.bl false) := by
  show (kitAnyB "int" ["tuple", "list"]).map D.bl = _
  rw [show kitAnyB "int" ["tuple", "list"] = some false by decide +kernel]; rfl
@[simp] theorem isT_b (i : Bool) : isTB ["tuple", "list"] (.bl i) = some (.bl false) := by
  show (kitAnyB "bool" ["tuple", "list"]).map D.bl = _
  rw [show kitAnyB "bool" ["tuple", "list"] = some false by decide +kernel]; rfl
@[simp] theorem isT_s (i : Str) : isTB ["tuple", "list"] (.str i) = some (.bl false) := by
  show (kitAnyB "str" ["tuple", "list"]).map D.bl = _
  rw [show kitAnyB "str" ["tuple", "list"] = some false by decide +kernel]; rfl
@[simp] theorem isT_n : isTB ["tuple", "list"] .non = some (.bl false) := by
  show (kitAnyB "NoneType" ["tuple", "list"]).map D.bl = _
  rw [show kitAnyB "NoneType" ["tuple", "list"] = some false by decide +kernel]; rfl
@[simp] theorem isT_t (i : List D) : isTB ["tuple", "list"] (.tup i) = some (.bl true) := by
  show (kitAnyB "tuple" ["tuple", "list"]).map D.bl = _
  rw [show kitAnyB "tuple" ["tuple", "list"] = some true by decide +kernel]; rfl
@[simp] theorem isT_l (i : List D) : isTB ["tuple", "list"] (.lst i) = some (.bl true) := by
  show (kitAnyB "list" ["tuple", "list"]).map D.bl = _
  rw [show kitAnyB "list" ["tuple", "list"] = some true by decide +kernel]; rfl
/-- data of whole numbers -/
def numB : Nat → D → Bool
  | 0, _ => false
  | n + 1, d => match d with
    | .non => true
    | .int _ => true
    | .tup ds => decide (ds.length ≤ 1000) && ds.all (numB n)
    | .lst ds => decide (ds.length ≤ 1000) && ds.all (numB n)
    | _ => false
theorem trus_map : ∀ bs : List Bool, trusOf (bs.map .bl) = some bs
  | [] => rfl
  | b :: bs => by
    show (trusOf (bs.map .bl)).map _ = _
    rw [trus_map bs]
    rfl
theorem all_map (bs : List Bool) : allB [.lst (bs.map .bl)] = some (.bl (bs.all id)) := by
  show (trusOf (bs.map .bl)).map _ = _
  rw [trus_map]; rfl
theorem any_map (bs : List Bool) : anyB [.lst (bs.map .bl)] = some (.bl (bs.any id)) := by
  show (trusOf (bs.map .bl)).map _ = _
  rw [trus_map]; rfl
theorem all_trues {α : Type} (xs : List α) : allB [.lst (xs.map fun _ => .bl true)] = some (.bl true) := by
  have := all_map (xs.map fun _ => true)
  rw [List.map_map] at this
  rw [show (xs.map fun _ => D.bl true) = xs.map (D.bl ∘ fun _ => true) from rfl, this]
  congr 2
  simp
theorem nums_map : ∀ bs : List Int, numsOf (bs.map .int) = some bs
  | [] => rfl
  | b :: bs => by
    show (numsOf (bs.map .int)).map _ = _
    rw [nums_map bs]
    rfl
theorem sum_map (bs : List Int) : sumB [.lst (bs.map .int)] = some (.int bs.sum) := by
  show (numsOf (bs.map .int)).map _ = _
  rw [nums_map]; rfl
end
end FL
namespace FL
open PySem PySem.Spec L2
local macro_rules | `(tactic| walk_at "go") => `(tactic| with_reducible first
  | refine wp_seq ?_ | refine wp_sIf ?_ | refine wp_ret ?_ | refine wp_set ?_ | refine wp_asg ?_ | refine wp_setL ?_ | refine wp_retL ?_ | refine wp_expr ?_
  | refine wp_2 ?_ | refine wp_1 ?_ | refine wp_C ?_ | refine wp_xB ?_ | refine wp_cons ?_ | refine wp_P ?_ | refine wp_xT ?_ | refine wp_tru ?_ | refine wp_tup ?_ | refine wp_lst ?_ | refine wp_fz ?_ | refine wp_oInt ?_ | refine wp_cut ?_
  | refine wp_and ?_ | refine wp_or ?_ | refine wp_not ?_ | refine wp_tAnd ?_ | refine wp_tOr ?_ | refine wp_tNot ?_ | refine wp_xIf ?_ | refine wp_chain ?_ | refine wp_par2 ?_ | refine wp_par3 ?_ | refine wp_parN ?_ | refine wp_pVal ?_ | refine wp_pNew ?_
  | refine wp_lB ?_ | refine wp_iOf ?_ | refine wp_iRow ?_ | refine wp_for ?_ | refine wp_forc ?_ | refine wp_forn ?_ | refine wp_gsCons ?_ | refine wp_gsNil ?_ | refine wp_its0 ?_ | refine wp_aVal ?_
  | refine fl_nx ?_ | refine fl_rt ?_ | refine fl_rtL ?_ | refine fl_co ?_ | refine fl_br ?_ | refine br_t ?_ | refine br_f ?_ | refine br_t' ?_ | refine br_f' ?_ | refine br_n ?_ | refine br_n' ?_ | refine en_rt ?_ | refine en_rtL ?_ | refine in_nx ?_ | refine in_co ?_ | refine it_nx ?_ | refine it_co ?_ | refine it_rt ?_ | refine it_br ?_ | refine ex_bl ?_ | refine ex_int ?_)
local macro_rules | `(tactic| walk_at "sd") => `(tactic| first
  | ((with_reducible refine' wp_var ?e ?_); case e => rfl)
  | ((with_reducible refine' wp_gsTup ?e ?_); case e => rfl)
  | ((with_reducible refine' wp_setv ?e ?_); (case e => exact Nat.le_of_ble_eq_true rfl); try dsimp only [List.set])
  | ((with_reducible refine' wp_itsV ?e ?_); (case e => exact Nat.le_of_ble_eq_true rfl); try dsimp only [List.set])
  | ((with_reducible refine' wp_itsN ?e ?_); (case e => exact Nat.le_of_ble_eq_true rfl); try dsimp only [List.set])
  | ((with_reducible refine' wp_lend' ?e ?_); case e => rfl)
  | ((with_reducible refine' wp_gsSub ?h ?c); case c => exact ⟨_, _, rfl⟩)
  | ((with_reducible refine' wp_late ?e ?_); case e => exact ⟨_, _, rfl⟩))
local macro_rules | `(tactic| walk_at "ex") => `(tactic| first
  | ((with_reducible refine' ex_sub ?e ?f ?_); (case e => rfl); (case f => rfl); try dsimp only [List.set])
  | ((with_reducible refine' ex_sb ?e ?_); case e => rfl)
  | ((with_reducible refine' ex_so ?e ?_); case e => rfl)
  | ((with_reducible refine' ex_p2 ?e ?f ?_); (case e => exact Nat.le_of_ble_eq_true rfl); (case f => exact Nat.le_of_ble_eq_true rfl); try dsimp only [List.set])
  | ((with_reducible refine' ex_p3 ?e ?f ?g ?_); (case e => exact Nat.le_of_ble_eq_true rfl); (case f => exact Nat.le_of_ble_eq_true rfl); (case g => exact Nat.le_of_ble_eq_true rfl); try dsimp only [List.set])
  | ((with_reducible refine' And.intro ?e ?_); (case e => rfl))
  | ((with_reducible refine' And.intro ?e ?_); (case e => exact Nat.le_of_ble_eq_true rfl); try dsimp only [List.set]))
local macro_rules | `(tactic| walk_at "op") => `(tactic| first
  | (with_reducible refine' wp_O (eq_int _ _) ?_)
  | (with_reducible refine' wp_O (ne_int _ _) ?_)
  | (with_reducible refine' wp_O (eq_bl _ _) ?_)
  | ((with_reducible refine' wp_O (mul_ok (small _ ?e) (small _ ?f)) ?_); (case e => omega); (case f => omega))
  | ((with_reducible refine' wp_O (mod_ok ?e) ?_); case e => omega)
  | ((with_reducible refine' wp_O (div_ok ?e (small _ ?f)) ?_); (case e => omega); case f => omega)
  | ((with_reducible refine' wp_O (dm_ok ?e ?f) ?_); (case e => omega); case f => omega)
  | ((with_reducible refine' wp_O ?e ?_); case e => rfl))
local macro_rules | `(tactic| walk_at "to") => `(tactic| repeat (first | walk_at "go" | walk_at "sd" | walk_at "ex"))
local macro_rules | `(tactic| walk_at "do") => `(tactic| repeat (first | walk_at "go" | walk_at "sd" | walk_at "op" | walk_at "ex"))
def Well (ds : List D) : Prop := ∃ a s : Int, ds = [.int a, .int s] ∧ 0 ≤ a ∧ 0 ≤ s ∧ s < 18446744073709551616
theorem f_take {a s m : Int} (h1 : 0 ≤ a) (h2 : 0 ≤ s) (h3 : s < 18446744073709551616) (m1 : 1 ≤ m) (m2 : m ≤ 65536) {Q : D → List Ent → Prop} (q : ∀ t a s, 0 ≤ t → t < m → 0 ≤ a → 0 ≤ s → s < 18446744073709551616 → Q (.int t) [.cel .io [.int a, .int s]]) : WpF F__law_take (ioArgs [] [.int a, .int s] [.int m]) Q := by
  refine wp_defI ?_
  unfold B__law_take
  show Wp _ [.cel .io [.int a, .int s], .val (.int m), .no, .no] _
  walk_at "do"
  refine br_d (fun g => ?_) (fun g => ?_)
  · walk_at "do"
    refine en_rtI rfl ?_
    exact q _ _ _ (Int.emod_nonneg _ (by omega)) (Int.emod_lt_of_pos _ (by omega)) (Int.ediv_nonneg h1 (by omega)) h2 h3
  · walk_at "do"
    refine wp_while1 ?_
    walk_at "do"
    refine br_d (fun g1 => ?_) (fun g1 => (g1 (by omega)).elim)
    walk_at "do"
    show Wp _ [.cel .io [.int a, .int ((s * 6364136223846793005 + 1442695040888963407) % 18446744073709551616)], .val (.int m), .val (.int (0 * 16777216 + (s * 6364136223846793005 + 1442695040888963407) % 18446744073709551616 / 1099511627776)), .val (.int (1 * 16777216))] _
    generalize hs' : (s * 6364136223846793005 + 1442695040888963407) % 18446744073709551616 = s'
    have b1 : 0 ≤ s' ∧ s' < 18446744073709551616 := by omega
    generalize ht' : 0 * 16777216 + s' / 1099511627776 = t'
    have b2 : 0 ≤ t' ∧ t' < 16777216 := by omega
    refine wp_while1 ?_
    walk_at "do"
    refine br_d (fun g2 => ?_) (fun g2 => ?_)
    · walk_at "do"
      show Wp _ [.cel .io [.int a, .int ((s' * 6364136223846793005 + 1442695040888963407) % 18446744073709551616)], .val (.int m), .val (.int (t' * 16777216 + (s' * 6364136223846793005 + 1442695040888963407) % 18446744073709551616 / 1099511627776)), .val (.int (1 * 16777216 * 16777216))] _
      generalize hs2 : (s' * 6364136223846793005 + 1442695040888963407) % 18446744073709551616 = s2
      have b3 : 0 ≤ s2 ∧ s2 < 18446744073709551616 := by omega
      refine wp_while1 ?_
      walk_at "do"
      refine br_d (fun g3 => (by omega)) (fun g3 => ?_)
      walk_at "do"
      refine en_rtI rfl ?_
      exact q _ _ _ (Int.emod_nonneg _ (by omega)) (Int.emod_lt_of_pos _ (by omega)) h1 b3.1 b3.2
    · walk_at "do"
      refine en_rtI rfl ?_
      exact q _ _ _ (Int.emod_nonneg _ (by omega)) (Int.emod_lt_of_pos _ (by omega)) h1 b1.1 b1.2
theorem bits_of (z : Int) : bitsOf z ≤ Builtin.Int.intBits z + 1 := by
  unfold bitsOf Builtin.Int.intBits
  by_cases h : z = 0
  · subst h; decide
  · have hb : (z == 0) = false := by simpa using h
    rw [hb]
    simp only [Bool.false_eq_true, if_false]
    omega
theorem bits_mono {i j : Int} (h : i.natAbs ≤ j.natAbs) : bitsOf i ≤ bitsOf j := by
  unfold bitsOf
  have : i.natAbs.log2 ≤ j.natAbs.log2 := by
    by_cases z : i.natAbs = 0
    · rw [z]; exact Nat.zero_le _
    · exact (Nat.le_log2 (by omega)).mpr (Nat.le_trans (Nat.log2_self_le z) h)
  omega
theorem mul_bits {i j : Int} (h1 : bitsOf i ≤ 1048600) (h2 : bitsOf j ≤ 1048600) : mulD (.int i) (.int j) = some (.int (i * j)) := by
  unfold mulD mulOk
  simp only
  rw [if_pos (decide_eq_true (by omega))]
theorem bits_small {i : Int} (h : i.natAbs < 2 ^ 64) : bitsOf i ≤ 1048600 := Nat.le_trans (bits_lt h) (by decide)
theorem f_pool {ns : List Int} (hl : ns.length ≤ 63) (hb : ∀ z ∈ ns, Builtin.Int.intBits z ≤ 1048576) {lap : Int} (l0 : 0 ≤ lap) (l1 : lap ≤ 100) {Q : D → List Ent → Prop} (q : ∀ es, Well es → Q (.lst es) []) : WpF F__law_pool (valsOf [.scr (ns.map .int), .int lap]) Q := by
  refine wp_defL ?_
  unfold B__law_pool
  show Wp _ [.val (.scr (ns.map .int)), .val (.int lap), .no, .no, .no] _
  have main : ∀ cell : Int, bitsOf cell ≤ 1048590 → Wp (sSeq (sSet 3 (xB absB (dCons (xVar 2) (mP [])))) (sSeq (sSet 4 (x2 modD (xB intB (dCons (x2 addD (x2 addD (x2 addD (x2 mulD (xVar 3) (xC (.int 48271))) (x2 mulD (xC (.int 16807)) (xVar 1))) (x2 mulD (xC (.int 11)) (xB intB (dCons (x2 ltD (xVar 2) (xC (.int 0))) (mP []))))) (xC (.int 1))) (mP []))) (xC (.int 2305843009213693951)))) (sSeq (sIf (mT (x2 geD (xVar 3) (xC (.int 1000000000000000000)))) (sRetL (lLst (dCons (x2 addD (x2 mulD (xC (.int 2)) (x2 subD (xVar 3) (xC (.int 1000000000000000000)))) (xB intB (dCons (x2 ltD (xVar 2) (xC (.int 0))) (mP [])))) (dCons (xVar 4) (mP []))))) (mP .nx)) (sRetL (lLst (dCons (xC (.int 0)) (dCons (xVar 4) (mP []))))))))
      [.val (.scr (ns.map .int)), .val (.int lap), .val (.int cell), .no, .no] fun fl _ => ∃ ds, fl = .rtL ds ∧ Q (.lst ds) [] := by
    intro cell hc
    have ha : bitsOf (if cell < 0 then -cell else cell) ≤ 1048590 := Nat.le_trans (bits_mono (by split <;> omega)) hc
    have hp : 0 ≤ (if cell < 0 then -cell else cell) := by split <;> omega
    generalize hsz : (if cell < 0 then -cell else cell) = size at ha hp
    walk_at "to"
    refine wp_O (show absB [.int cell] = some (.int size) from congrArg (fun x => some (D.int x)) hsz) ?_
    walk_at "to"
    refine wp_O (mul_bits (by omega) (bits_small (by decide))) ?_
    walk_at "do"
    refine br_d (fun g => ?_) (fun g => ?_)
    · walk_at "to"
      walk_at "op"
      walk_at "to"
      refine wp_O (mul_bits (bits_small (by decide)) (Nat.le_trans (bits_mono (by omega : (size - 1000000000000000000).natAbs ≤ size.natAbs)) (by omega))) ?_
      walk_at "do"
      exact q _ ⟨_, _, rfl, by
        have : 0 ≤ (if decide (cell < 0) = true then (1 : Int) else 0) := by split <;> omega
        omega, by omega, by omega⟩
    · walk_at "do"
      exact q _ ⟨_, _, rfl, by omega, by omega, by omega⟩
  have hl' : (ns.map D.int).length ≤ 63 := by rw [List.length_map]; exact hl
  walk_at "do"
  refine br_d (fun g => ?_) (fun g => ?_)
  · have g' : lap.toNat < ns.length := by rw [List.length_map] at g; omega
    have : ixD (.scr (ns.map .int)) (.int lap) = some (.int ns[lap.toNat]) := by
      have h := atI_nat (xs := ns.map D.int) (j := lap.toNat) (v := .int ns[lap.toNat]) (by rw [List.getElem?_map, List.getElem?_eq_getElem g']; rfl)
      rw [Int.toNat_of_nonneg l0] at h
      exact h
    walk_at "to"
    refine wp_O this ?_
    refine ⟨by exact Nat.le_of_ble_eq_true rfl, ?_⟩
    dsimp only [List.set]
    exact fl_nx (main _ (Nat.le_trans (bits_of _) (by have := hb _ (List.getElem_mem g'); omega)))
  · walk_at "go"
    exact fl_nx (main _ (Nat.le_trans (bits_lt (n := 64) (by rw [List.length_map]; omega)) (by decide)))
/-- a draw: any number below -/
def t__law_take : D → TM D := fun m P _ => ∃ i : Int, m = .int i ∧ 1 ≤ i ∧ i ≤ 65536 ∧ ∀ t : Int, 0 ≤ t → t < i → P (.int t)
def tW__law_pool : List D → TM Unit := fun ds P _ => ∃ (ns : List Int) (lap : Int), ds = [.scr (ns.map .int), .int lap] ∧ ns.length ≤ 63 ∧ (∀ z ∈ ns, Builtin.Int.intBits z ≤ 1048576) ∧ 0 ≤ lap ∧ lap ≤ 100 ∧ P ()
theorem lenW__law_pool : ∀ ds P E, tW__law_pool ds P E → ds.length = 2 := fun ds P E ⟨_, _, e, _⟩ => by rw [e]; rfl
theorem wxf_of {F : List Ent → R D} {es : List Ent} {Q : D → List Ent → Prop} {E : Str → Option (Str × D) → List Ent → Prop} (h : WpF F es Q) : WxF F es Q E := by
  unfold WpF at h
  unfold WxF
  cases e : F es with
  | ok d o => rw [e] at h; exact h
  | exc c p o => rw [e] at h; exact h.elim
  | bad => rw [e] at h; exact h.elim
theorem simW__law_pool : SimWell F__law_pool tW__law_pool := fun ds P E ⟨ns, lap, e, h1, hb, h2, h3, p⟩ => by
  subst e
  refine wxf_of (f_pool h1 hb h2 h3 fun es ⟨a, s, h⟩ => ⟨⟨es, rfl, a, s, h.1, by omega, by omega, by omega, by omega⟩, p⟩)
theorem sim__law_take : SimFW 2 0 F__law_take (u1 t__law_take) := fun k w pre post P E hi hw l p => by
  obtain ⟨m, e, i, rfl, h1, h2, z⟩ := u1_inv p
  cases pre with
  | cons _ _ => cases hi
  | nil =>
    cases (show post = _ from e)
    obtain ⟨a, s, rfl, b1, b2, b3, b4⟩ := hw
    refine wxf_of (f_take b1 b2 b3 h1 h2 fun t a s t0 t1 a0 s0 s1 => ⟨⟨_, ⟨a, s, rfl, a0, s0, s1, by omega⟩, rfl⟩, z t t0 t1⟩)
theorem k_take {β : Type} (m : Int) (f : D → TM β) (P : β → Prop) (E : XP) : tb (t__law_take (.int m)) f P E = (1 ≤ m ∧ m ≤ 65536 ∧ ∀ t : Int, 0 ≤ t → t < m → f (.int t) P E) := by
  refine propext ⟨fun ⟨i, e, h1, h2, h3⟩ => ?_, fun ⟨h1, h2, h3⟩ => ⟨m, rfl, h1, h2, h3⟩⟩
  cases e
  exact ⟨h1, h2, h3⟩
theorem plain_ofb {n : Nat} {b : M Fl} {t : D → TM D} (s : SimF0 (defF none false n b) (u1 t)) (h : ∀ ns : List Int, ns.length ≤ 63 → (∀ z ∈ ns, Builtin.Int.intBits z ≤ 1048576) → t (.scr (ns.map .int)) (fun d => d = .bl true) (fun _ _ => False)) : Plain (defF none false n b) := fun ns hl hb => by
  have := s [.scr (ns.map .int)] _ _ (h ns hl hb)
  unfold WxF at this
  cases e : defF none false n b (valsOf [.scr (ns.map .int)]) with
  | ok d o =>
    rw [e] at this
    have e2 := defF_out e
    subst this e2
    exact e
  | exc c p o => rw [e] at this; exact this.elim
  | bad => rw [e] at this; exact this.elim
end FL
namespace FL
open PySem PySem.Spec L2
/-- is_whole(value) -/
def t_is_whole : D → TM D := fun x_value => (tAnd (tBf isB (tCons (tp x_value) (tCons (tp (.opq (.ty "int"))) (tp [])))) (tNot (tBf isB (tCons (tp x_value) (tCons (tp (.opq (.ty "bool"))) (tp []))))))
/-- is_between(value, low, high) -/
def t_is_between : D → D → D → TM D := fun x_value x_low x_high => (tAnd (tb (tCons (tp x_value) (tp [])) (u1 t_is_whole)) (tChain leD leD (tp x_low) (tp x_value) (tp x_high)))
/-- is_tuple_of(value, many) -/
def t_is_tuple_of : D → D → TM D := fun x_value x_many => (tAnd (tBf isB (tCons (tp x_value) (tCons (tp (.opq (.ty "tuple"))) (tp [])))) (t2 eqD (tBf lenB (tCons (tp x_value) (tp []))) (tp x_many)))
/-- is_value_by(value) -/
def t_is_value_by : D → TM D := fun x_value => (tAnd (tb (tCons (tp x_value) (tCons (tp (.int 2)) (tp []))) (u2 t_is_tuple_of)) (tAnd (tb (tCons (t2 ixD (tp x_value) (tp (.int 0))) (tCons (t1 negD (tp (.int 9999))) (tCons (tp (.int 9999)) (tp [])))) (u3 t_is_between)) (tb (tCons (t2 ixD (tp x_value) (tp (.int 1))) (tCons (tp (.int 1)) (tCons (tp (.int 999)) (tp [])))) (u3 t_is_between))))
/-- first_wrong__is_value_by(value, fewest, most, is_right) -/
def t_first_wrong__is_value_by : D → D → D → D → TM D := fun x_value x_fewest x_most x_is_right => (tIf (ttOr (ttNot (tTru (tBf isB (tCons (tp x_value) (tCons (tp (.opq (.ty "tuple"))) (tp [])))))) (ttNot (tMT (tChain leD leD (tp x_fewest) (tBf lenB (tCons (tp x_value) (tp []))) (tp x_most))))) (tFz (tLst (tCons (tp .non) (tp [])))) (tCut (tFz (compT (tBf enum1 (tCons (tp x_value) (tp []))) (fun d => tb (tO (unTup 2 d)) (tgCons tp fun (a2 : D) => (tgCons tp fun (a3 : D) => tgNil))) (fun v1 => (ttNot (tTru (tA (x_is_right = .dfn "is_value_by") (tb (tCons (tp v1.2.1) (tp [])) (u1 t_is_value_by)))))) fun v1 => (tp v1.1))) (tp none) (tInt (tp (.int 1)))))
/-- fraction(number, under) -/
def t_fraction : D → D → TM D := fun x_number x_under => (tb (t2 mulD (tBf gcdB (tCons (tp x_number) (tCons (tp x_under) (tp [])))) (tIf (tMT (t2 gtD (tp x_under) (tp (.int 0)))) (tp (.int 1)) (t1 negD (tp (.int 1))))) fun x_part => (tTup (tCons (t2 divD (tp x_number) (tp x_part)) (tCons (t2 divD (tp x_under) (tp x_part)) (tp [])))))
/-- is_less(one, two) -/
def t_is_less : D → D → TM D := fun x_one x_two => (t2 ltD (t2 mulD (t2 ixD (tp x_one) (tp (.int 0))) (t2 ixD (tp x_two) (tp (.int 1)))) (t2 mulD (t2 ixD (tp x_two) (tp (.int 0))) (t2 ixD (tp x_one) (tp (.int 1)))))
/-- greater_of(one, two) -/
def t_greater_of : D → D → TM D := fun x_one x_two => (tIf (tTru (tb (tCons (tp x_one) (tCons (tp x_two) (tp []))) (u2 t_is_less))) (tp x_two) (tp x_one))
/-- lesser_of(one, two) -/
def t_lesser_of : D → D → TM D := fun x_one x_two => (tIf (tTru (tb (tCons (tp x_two) (tCons (tp x_one) (tp []))) (u2 t_is_less))) (tp x_two) (tp x_one))
/-- greatest_of(some) -/
def t_greatest_of : D → TM D := fun x_some => (tb (t2 ixD (tp x_some) (tp (.int 0))) fun x_found => (tb (forT (tRow (tCut (tp x_some) (tInt (tp (.int 1))) (tp none))) (σ := D) x_found fun d s1 => tb (tp d) fun x_each => (tb (tb (tCons (tp s1) (tCons (tp x_each) (tp []))) (u2 t_greater_of)) fun x_found_2 => (tp x_found_2))) fun s2 => (tp s2)))
/-- least_of(some) -/
def t_least_of : D → TM D := fun x_some => (tb (t2 ixD (tp x_some) (tp (.int 0))) fun x_found => (tb (forT (tRow (tCut (tp x_some) (tInt (tp (.int 1))) (tp none))) (σ := D) x_found fun d s1 => tb (tp d) fun x_each => (tb (tb (tCons (tp s1) (tCons (tp x_each) (tp []))) (u2 t_lesser_of)) fun x_found_2 => (tp x_found_2))) fun s2 => (tp s2)))
/-- wrong_in_values(value) -/
def t_wrong_in_values : D → TM D := fun x_value => (tb (tCons (tp x_value) (tCons (tp (.int 1)) (tCons (tp (.int 9)) (tCons (tp (.dfn "is_value_by")) (tp []))))) (u4 t_first_wrong__is_value_by))
/-- mean_by(values, one, two) -/
def t_mean_by : D → D → D → TM D := fun x_values x_one x_two => (tb (tCut (tp x_values) (tInt (tp x_one)) (tInt (t2 addD (tp x_two) (tp (.int 1))))) fun x_part => (tb (tCons (tBf sumB (tCons (tFz (compT (tRow (tp x_part)) (fun d => tb (tO (unTup 2 d)) (tgCons tp fun (a2 : D) => (tgCons tp fun (a3 : D) => tgNil))) (fun v1 => (tp true)) fun v1 => (t2 mulD (tp v1.1) (tp v1.2.1)))) (tp []))) (tCons (tBf sumB (tCons (tFz (compT (tRow (tp x_part)) (fun d => tb (tO (unTup 2 d)) (tgCons tp fun (a6 : D) => (tgCons tp fun (a7 : D) => tgNil))) (fun v5 => (tp true)) fun v5 => (tp v5.2.1))) (tp []))) (tp []))) (u2 t_fraction)))
/-- least_mean(values, one, at) -/
def t_least_mean : D → D → D → TM D := fun x_values x_one x_at => (tb (tCons (tFz (compT (tBf range2 (tCons (tp x_at) (tCons (tBf lenB (tCons (tp x_values) (tp []))) (tp [])))) tp (fun x_two => (tp true)) fun x_two => (tb (tCons (tp x_values) (tCons (tp x_one) (tCons (tp x_two) (tp [])))) (u3 t_mean_by)))) (tp [])) (u1 t_least_of))
/-- rising_by(values) -/
def t_rising_by : D → TM D := fun x_values => (tb (tFz (tBf range1 (tCons (tBf lenB (tCons (tp x_values) (tp []))) (tp [])))) fun x_places => (tBf tupB (tCons (tFz (compT (tRow (tp x_places)) tp (fun x_at => (tp true)) fun x_at => (tb (tCons (tFz (compT (tBf range1 (tCons (t2 addD (tp x_at) (tp (.int 1))) (tp []))) tp (fun x_one => (tp true)) fun x_one => (tb (tCons (tp x_values) (tCons (tp x_one) (tCons (tp x_at) (tp [])))) (u3 t_least_mean)))) (tp [])) (u1 t_greatest_of)))) (tp []))))
/-- check_values(value) -/
def t_check_values : D → TM D := fun x_value => (tb (forT (tRow (tb (tCons (tp x_value) (tp [])) (u1 t_wrong_in_values))) (σ := Unit) () fun d s1 => tb (tp d) fun x_index => tBad) fun s2 => (tp .non))
/-- rising(values) -/
def t_rising : D → TM D := fun x_values => (tb (tb (tCons (tp x_values) (tp [])) (u1 t_check_values)) fun _ => (tb (tCons (tp x_values) (tp [])) (u1 t_rising_by)))
/-- _law_alike(one, two) -/
def t__law_alike : Nat → D → D → TM D
  | 0 => fun _ _ => tBad
  | n + 1 => fun x_one x_two => (tIf (ttOr (tTru (tBf isB (tCons (tp x_one) (tCons (tp (.opq (.ty "bool"))) (tp []))))) (tTru (tBf isB (tCons (tp x_two) (tCons (tp (.opq (.ty "bool"))) (tp [])))))) (tAnd (tBf isB (tCons (tp x_one) (tCons (tp (.opq (.ty "bool"))) (tp [])))) (tAnd (tBf isB (tCons (tp x_two) (tCons (tp (.opq (.ty "bool"))) (tp [])))) (t2 eqD (tp x_one) (tp x_two)))) (tIf (ttOr (tTru (tBf isB (tCons (tp x_one) (tCons (tp (.opq (.ty "int"))) (tp []))))) (tTru (tBf isB (tCons (tp x_two) (tCons (tp (.opq (.ty "int"))) (tp [])))))) (tAnd (tBf isB (tCons (tp x_one) (tCons (tp (.opq (.ty "int"))) (tp [])))) (tAnd (tBf isB (tCons (tp x_two) (tCons (tp (.opq (.ty "int"))) (tp [])))) (t2 eqD (tp x_one) (tp x_two)))) (tIf (ttOr (tTru (tBf isB (tCons (tp x_one) (tCons (tp (.opq (.ty "str"))) (tp []))))) (tTru (tBf isB (tCons (tp x_two) (tCons (tp (.opq (.ty "str"))) (tp [])))))) (tAnd (tBf isB (tCons (tp x_one) (tCons (tp (.opq (.ty "str"))) (tp [])))) (tAnd (tBf isB (tCons (tp x_two) (tCons (tp (.opq (.ty "str"))) (tp [])))) (t2 eqD (tp x_one) (tp x_two)))) (tIf (ttOr (tMT (t2 isNoneD (tp x_one) (tp .non))) (tMT (t2 isNoneD (tp x_two) (tp .non)))) (tAnd (t2 isNoneD (tp x_one) (tp .non)) (t2 isNoneD (tp x_two) (tp .non))) (tIf (ttOr (tTru (tBf isB (tCons (tp x_one) (tCons (tp (.opq (.ty "dict"))) (tp []))))) (tTru (tBf isB (tCons (tp x_two) (tCons (tp (.opq (.ty "dict"))) (tp [])))))) (tAnd (tBf isB (tCons (tp x_one) (tCons (tp (.opq (.ty "dict"))) (tp [])))) (tAnd (tBf isB (tCons (tp x_two) (tCons (tp (.opq (.ty "dict"))) (tp [])))) (tChain eqD eqD (tBf lenB (tCons (tp x_one) (tp []))) (tBf lenB (tCons (tp x_two) (tp []))) (tp (.int 0))))) (tIf (ttOr (tMT (t2 neD (tBf isB (tCons (tp x_one) (tCons (tp (.opq (.ty "tuple"))) (tp [])))) (tBf isB (tCons (tp x_two) (tCons (tp (.opq (.ty "tuple"))) (tp [])))))) (tMT (t2 neD (tBf isB (tCons (tp x_one) (tCons (tp (.opq (.ty "list"))) (tp [])))) (tBf isB (tCons (tp x_two) (tCons (tp (.opq (.ty "list"))) (tp []))))))) (tp (.bl false)) (tIf (ttOr (ttNot (tTru (tIsT ["tuple", "list"] (tp x_one)))) (tMT (t2 neD (tBf lenB (tCons (tp x_one) (tp []))) (tBf lenB (tCons (tp x_two) (tp [])))))) (tp (.bl false)) (tBf allB (tCons (tFz (compT (tBf range1 (tCons (tBf lenB (tCons (tp x_one) (tp []))) (tp []))) tp (fun x_k => (tp true)) fun x_k => (tb (tCons (t2 ixD (tp x_one) (tp x_k)) (tCons (t2 ixD (tp x_two) (tp x_k)) (tp []))) (u2 (t__law_alike n))))) (tp []))))))))))
/-- _law_divisor(one, two) -/
def t__law_divisor : D → D → TM D := fun x_one x_two => (tb (whileT (σ := D × D) (fun s1 => (tMT (t2 gtD (tp s1.2) (tp (.int 0))))) (fun s1 => (tP2 (tCons (tp s1.2) (tCons (t2 modD (tBf intB (tCons (tp s1.1) (tp []))) (tp s1.2)) (tp []))) fun x_one_2 x_two_2 => (tp (x_one_2, x_two_2)))) 1000 (x_one, x_two)) fun s2 => (tp s2.1))
/-- _law_f(top, low) -/
def t__law_f : D → D → TM D := fun x_top x_low => (tb (tb (tCons (tBf absB (tCons (tp x_top) (tp []))) (tCons (tBf absB (tCons (tp x_low) (tp []))) (tp []))) (u2 t__law_divisor)) fun x_by => (tb (tIf (tMT (t2 gtD (tp x_low) (tp (.int 0)))) (tp x_by) (t2 subD (tp (.int 0)) (tp x_by))) fun x_by_2 => (tTup (tCons (t2 divD (tp x_top) (tp x_by_2)) (tCons (t2 divD (tp x_low) (tp x_by_2)) (tp []))))))
/-- _law_plus(one, two) -/
def t__law_plus : D → D → TM D := fun x_one x_two => (tb (tCons (t2 addD (t2 mulD (t2 ixD (tp x_one) (tp (.int 0))) (t2 ixD (tp x_two) (tp (.int 1)))) (t2 mulD (t2 ixD (tp x_two) (tp (.int 0))) (t2 ixD (tp x_one) (tp (.int 1))))) (tCons (t2 mulD (t2 ixD (tp x_one) (tp (.int 1))) (t2 ixD (tp x_two) (tp (.int 1)))) (tp []))) (u2 t__law_f))
/-- _law_by(one, two) -/
def t__law_by : D → D → TM D := fun x_one x_two => (tb (tCons (t2 mulD (t2 ixD (tp x_one) (tp (.int 0))) (t2 ixD (tp x_two) (tp (.int 0)))) (tCons (t2 mulD (t2 ixD (tp x_one) (tp (.int 1))) (t2 ixD (tp x_two) (tp (.int 1)))) (tp []))) (u2 t__law_f))
/-- _law_below(one, two) -/
def t__law_below : D → D → TM D := fun x_one x_two => (t2 ltD (t2 mulD (t2 ixD (tp x_one) (tp (.int 0))) (t2 ixD (tp x_two) (tp (.int 1)))) (t2 mulD (t2 ixD (tp x_two) (tp (.int 0))) (t2 ixD (tp x_one) (tp (.int 1)))))
/-- _law_most(some) -/
def t__law_most : D → TM D := fun x_some => (tb (t2 ixD (tp x_some) (tp (.int 0))) fun x_found => (tb (forT (tRow (tp x_some)) (σ := D) x_found fun d s1 => tb (tp d) fun x_each => (tb (tIf (tTru (tb (tCons (tp s1) (tCons (tp x_each) (tp []))) (u2 t__law_below))) (tp x_each) (tp s1)) fun x_found_2 => (tp x_found_2))) fun s2 => (tp s2)))
/-- _law_least(some) -/
def t__law_least : D → TM D := fun x_some => (tb (t2 ixD (tp x_some) (tp (.int 0))) fun x_found => (tb (forT (tRow (tp x_some)) (σ := D) x_found fun d s1 => tb (tp d) fun x_each => (tb (tIf (tTru (tb (tCons (tp x_each) (tCons (tp s1) (tp []))) (u2 t__law_below))) (tp x_each) (tp s1)) fun x_found_2 => (tp x_found_2))) fun s2 => (tp s2)))
/-- _law_values(pool, high) -/
def t__law_values : D → TM D := fun x_high => (tb (tb (tTup (tCons (t2 addD (tp (.int 1)) (tb (tCons (tp x_high) (tp [])) (u1 t__law_take))) (tCons (tb (tCons (tp (.int 3)) (tp [])) (u1 t__law_take)) (tp [])))) (fun d => tb (tO (unTup 2 d)) (tgCons tp fun (a2 : D) => (tgCons tp fun (a3 : D) => tgNil)))) fun v1 => (tb (tb (tTup (tCons (t2 ixD (tTup (tCons (tp (.int 3)) (tCons (tp (.int 9)) (tCons (tp (.int 9999)) (tp []))))) (tb (tCons (tp (.int 3)) (tp [])) (u1 t__law_take))) (tCons (t2 addD (tp (.int 1)) (tb (tCons (tp (.int 999)) (tp [])) (u1 t__law_take))) (tp [])))) (fun d => tb (tO (unTup 2 d)) (tgCons tp fun (a6 : D) => (tgCons tp fun (a7 : D) => tgNil)))) fun v5 => (tBf tupB (tCons (tFz (compT (tBf range1 (tCons (tp v1.1) (tp []))) tp (fun x_k => (tp true)) fun x_k => (tTup (tCons (t2 subD (tb (tCons (t2 addD (t2 mulD (tp (.int 2)) (tp v5.1)) (tp (.int 1))) (tp [])) (u1 t__law_take)) (tp v5.1)) (tCons (t2 ixD (tTup (tCons (tp v5.2.1) (tCons (t2 addD (tp (.int 1)) (tb (tCons (tp (.int 4)) (tp [])) (u1 t__law_take))) (tCons (t2 addD (tp (.int 1)) (tb (tCons (tp (.int 999)) (tp [])) (u1 t__law_take))) (tp []))))) (tp v1.2.1)) (tp [])))))) (tp [])))))
/-- _law_mean(values, low, high) -/
def t__law_mean : D → D → D → TM D := fun x_values x_low x_high => (tb (tCut (tp x_values) (tInt (tp x_low)) (tInt (t2 addD (tp x_high) (tp (.int 1))))) fun x_some => (tb (tCons (tBf sumB (tCons (tFz (compT (tRow (tp x_some)) (fun d => tb (tO (unTup 2 d)) (tgCons tp fun (a2 : D) => (tgCons tp fun (a3 : D) => tgNil))) (fun v1 => (tp true)) fun v1 => (t2 mulD (tp v1.1) (tp v1.2.1)))) (tp []))) (tCons (tBf sumB (tCons (tFz (compT (tRow (tp x_some)) (fun d => tb (tO (unTup 2 d)) (tgCons tp fun (a6 : D) => (tgCons tp fun (a7 : D) => tgNil))) (fun v5 => (tp true)) fun v5 => (tp v5.2.1))) (tp []))) (tp []))) (u2 t__law_f)))
/-- _law_rising(values) -/
def t__law_rising : D → TM D := fun x_values => (tb (tb (tBf lenB (tCons (tp x_values) (tp []))) fun d => tb (tb (tLst (tp [])) fun d => tb (tp ()) fun s => tp (d, s)) fun s => tp (d, s)) fun v1 => (tb (forT (tBf range1 (tCons (tp v1.1) (tp []))) (σ := List D) v1.2.1 fun d s2 => tb (tp d) fun x_place => (tb (tApp s2 (tb (tCons (tFz (compT (tBf range1 (tCons (t2 addD (tp x_place) (tp (.int 1))) (tp []))) tp (fun x_a => (tp true)) fun x_a => (tb (tCons (tFz (compT (tBf range2 (tCons (tp x_place) (tCons (tp v1.1) (tp [])))) tp (fun x_b => (tp true)) fun x_b => (tb (tCons (tp x_values) (tCons (tp x_a) (tCons (tp x_b) (tp [])))) (u3 t__law_mean)))) (tp [])) (u1 t__law_least)))) (tp [])) (u1 t__law_most))) fun x_found => (tp x_found))) fun s3 => (tNX (tLend noLst (tBf tupB (tCons (tp (.lst s3)) (tp [])))))))
/-- _law_right(pool, values) -/
def t__law_right : D → TM D := fun x_values => (tP2 (tCons (tb (tCons (tp x_values) (tp [])) (u1 t__law_rising)) (tCons (tBf lenB (tCons (tp x_values) (tp []))) (tp []))) fun x_due x_many => (tIf (ttNot (tTru (tb (tCons (tTup (tCons (tb (tCons (tp x_values) (tp [])) (u1 t_rising)) (tCons (tb (tCons (tp x_values) (tp [])) fun ds => tA (ds.length = 1) ((u1 t_rising) (ordL [0] ds))) (tp [])))) (tCons (tTup (tCons (tp x_due) (tCons (tp x_due) (tp [])))) (tp []))) (u2 (t__law_alike 10))))) (tp (.bl false)) (tb (forX (tBf range1 (tCons (tp x_many) (tp []))) (σ := Unit) () fun d s1 => tb (tp d) fun x_place => (tb (tb (tCons (tFz (compT (tBf range2 (tCons (tp x_place) (tCons (tp x_many) (tp [])))) tp (fun x_b => (tp true)) fun x_b => (tb (tCons (tFz (compT (tBf range1 (tCons (t2 addD (tp x_place) (tp (.int 1))) (tp []))) tp (fun x_a => (tp true)) fun x_a => (tb (tCons (tp x_values) (tCons (tp x_a) (tCons (tp x_b) (tp [])))) (u3 t__law_mean)))) (tp [])) (u1 t__law_most)))) (tp [])) (u1 t__law_least)) fun x_other => (tIf (ttOr (tMT (t2 neD (tp x_other) (t2 ixD (tp x_due) (tp x_place)))) (ttAnd (tMT (t2 gtD (tp x_place) (tp (.int 0)))) (tTru (tb (tCons (t2 ixD (tp x_due) (tp x_place)) (tCons (t2 ixD (tp x_due) (t2 subD (tp x_place) (tp (.int 1)))) (tp []))) (u2 t__law_below))))) (tb (tp (.bl false)) fun d => tp (.rt d)) (tp (Lx.go ()))))) fun o => tFin o (fun d => tp d) fun s2 => (tb (tFz (compT (tRow (tp x_values)) (fun d => tb (tO (unTup 2 d)) (tgCons tp fun (a4 : D) => (tgCons tp fun (a5 : D) => tgNil))) (fun v3 => (tp true)) fun v3 => (tp v3.1))) fun x_own => (tIf (tMT (t2 neD (t2 eqD (tp x_due) (tBf tupB (tCons (tFz (compT (tRow (tp x_own)) tp (fun x_x => (tp true)) fun x_x => (tTup (tCons (tp x_x) (tCons (tp (.int 1)) (tp [])))))) (tp [])))) (t2 eqD (tp x_own) (tFz (tBf sortB (tCons (tp x_own) (tp []))))))) (tp (.bl false)) (tb (tb (tTup (tCons (t2 subD (tb (tCons (tp (.int 99)) (tp [])) (u1 t__law_take)) (tp (.int 49))) (tCons (t2 addD (tp (.int 1)) (tb (tCons (tp (.int 5)) (tp [])) (u1 t__law_take))) (tp [])))) (fun d => tb (tO (unTup 2 d)) (tgCons tp fun (a8 : D) => (tgCons tp fun (a9 : D) => tgNil)))) fun v7 => (tIf (tMT (t2 ltD (tBf maxB (tCons (tFz (compT (tRow (tp x_own)) tp (fun x_x_2 => (tp true)) fun x_x_2 => (tBf absB (tCons (tp x_x_2) (tp []))))) (tp []))) (tp (.int 1000)))) (tb (tb (tCons (tBf tupB (tCons (tFz (compT (tRow (tp x_values)) (fun d => tb (tO (unTup 2 d)) (tgCons tp fun (a12 : D) => (tgCons tp fun (a13 : D) => tgNil))) (fun v11 => (tp true)) fun v11 => (tTup (tCons (t2 addD (t2 mulD (tp v7.2.1) (tp v11.1)) (tp v7.1)) (tCons (tp v11.2.1) (tp [])))))) (tp []))) (tp [])) (u1 t_rising)) fun x_more => (tIf (tMT (t2 neD (tp x_more) (tBf tupB (tCons (tFz (compT (tRow (tp x_due)) tp (fun x_each => (tp true)) fun x_each => (tb (tCons (tb (tCons (tp x_each) (tCons (tTup (tCons (tp v7.2.1) (tCons (tp (.int 1)) (tp [])))) (tp []))) (u2 t__law_by)) (tCons (tTup (tCons (tp v7.1) (tCons (tp (.int 1)) (tp [])))) (tp []))) (u2 t__law_plus)))) (tp []))))) (tp (.bl false)) (tOr (t2 gtD (tBf maxB (tCons (tFz (compT (tRow (tp x_values)) (fun d => tb (tO (unTup 2 d)) (tgCons tp fun (a16 : D) => (tgCons tp fun (a17 : D) => tgNil))) (fun v15 => (tp true)) fun v15 => (tp v15.2.1))) (tp []))) (tp (.int 199))) (t2 eqD (tb (tCons (tBf tupB (tCons (tFz (compT (tRow (tp x_values)) (fun d => tb (tO (unTup 2 d)) (tgCons tp fun (a20 : D) => (tgCons tp fun (a21 : D) => tgNil))) (fun v19 => (tp true)) fun v19 => (tTup (tCons (tp v19.1) (tCons (t2 mulD (tp v19.2.1) (tp v7.2.1)) (tp [])))))) (tp []))) (tp [])) (u1 t_rising)) (tp x_due))))) (tOr (t2 gtD (tBf maxB (tCons (tFz (compT (tRow (tp x_values)) (fun d => tb (tO (unTup 2 d)) (tgCons tp fun (a24 : D) => (tgCons tp fun (a25 : D) => tgNil))) (fun v23 => (tp true)) fun v23 => (tp v23.2.1))) (tp []))) (tp (.int 199))) (t2 eqD (tb (tCons (tBf tupB (tCons (tFz (compT (tRow (tp x_values)) (fun d => tb (tO (unTup 2 d)) (tgCons tp fun (a28 : D) => (tgCons tp fun (a29 : D) => tgNil))) (fun v27 => (tp true)) fun v27 => (tTup (tCons (tp v27.1) (tCons (t2 mulD (tp v27.2.1) (tp v7.2.1)) (tp [])))))) (tp []))) (tp [])) (u1 t_rising)) (tp x_due))))))))))
/-- law(script) -/
def t_law : D → TM D := fun x_script => (tb (forX (tBf range1 (tCons (tBf min2B (tCons (tp (.int 20)) (tCons (tBf max2B (tCons (tp (.int 5)) (tCons (tBf lenB (tCons (tp x_script) (tp []))) (tp [])))) (tp [])))) (tp []))) (σ := Unit) () fun d s1 => tb (tp d) fun x_turn => (tb (tb (tCons (tp x_script) (tCons (tp x_turn) (tp []))) tW__law_pool) fun _ => (tIf (ttNot (tTru (tBf allB (tCons (tFz (compT (tBf range1 (tCons (tp (.int 2)) (tp []))) tp (fun x_k => (tp true)) fun x_k => (tb (tCons (tb (tCons (tp (.int 9)) (tp [])) (u1 t__law_values)) (tp [])) (u1 t__law_right)))) (tp []))))) (tb (tp (.bl false)) fun d => tp (.rt d)) (tp (Lx.go ()))))) fun o => tFin o (fun d => tp d) fun s2 => (tb (forX (tBf range1 (tCons (tp (.int 27)) (tp []))) (σ := Unit) () fun d s3 => tb (tp d) fun x_k_2 => (tIf (ttNot (tTru (tb (tb (tb (tCons (tp x_script) (tCons (tp (.int 0)) (tp []))) tW__law_pool) fun _ => (tCons (tTup (tCons (tTup (tCons (t2 modD (tBf intB (tCons (tp x_k_2) (tp []))) (tp (.int 3))) (tCons (tp (.int 1)) (tp [])))) (tCons (tTup (tCons (t2 modD (tBf intB (tCons (t2 divD (tp x_k_2) (tp (.int 3))) (tp []))) (tp (.int 3))) (tCons (tp (.int 2)) (tp [])))) (tCons (tTup (tCons (t2 divD (tp x_k_2) (tp (.int 9))) (tCons (tp (.int 1)) (tp [])))) (tp []))))) (tp []))) (u1 t__law_right)))) (tb (tp (.bl false)) fun d => tp (.rt d)) (tp (Lx.go ())))) fun o => tFin o (fun d => tp d) fun s4 => (tAnd (t2 eqD (tb (tCons (tTup (tCons (tTup (tCons (tp (.int 3)) (tCons (tp (.int 1)) (tp [])))) (tCons (tTup (tCons (tp (.int 1)) (tCons (tp (.int 1)) (tp [])))) (tCons (tTup (tCons (tp (.int 4)) (tCons (tp (.int 2)) (tp [])))) (tp []))))) (tp [])) (u1 t_rising)) (tTup (tCons (tTup (tCons (tp (.int 2)) (tCons (tp (.int 1)) (tp [])))) (tCons (tTup (tCons (tp (.int 2)) (tCons (tp (.int 1)) (tp [])))) (tCons (tTup (tCons (tp (.int 4)) (tCons (tp (.int 1)) (tp [])))) (tp [])))))) (t2 eqD (tb (tCons (tTup (tCons (tTup (tCons (tp (.int 5)) (tCons (tp (.int 1)) (tp [])))) (tCons (tTup (tCons (tp (.int 0)) (tCons (tp (.int 4)) (tp [])))) (tp [])))) (tp [])) (u1 t_rising)) (tTup (tCons (tTup (tCons (tp (.int 1)) (tCons (tp (.int 1)) (tp [])))) (tCons (tTup (tCons (tp (.int 1)) (tCons (tp (.int 1)) (tp [])))) (tp []))))))))
end FL
namespace FL
open PySem PySem.Spec L2
theorem e_fraction {n m : Int} (h0 : 0 < m) (h1 : m.natAbs < 2 ^ 4095) : t_fraction (.int n) (.int m) = tp (fr (Rat.divInt n m)) := by
  have hg : 0 < Nat.gcd n.natAbs m.natAbs := Nat.gcd_pos_of_pos_right _ (by omega)
  have hg2 : Nat.gcd n.natAbs m.natAbs ≤ m.natAbs := Nat.gcd_le_right _ (by omega)
  have hp := part_fr (n := n) (m := m) h0
  have hg3 : ((Nat.gcd n.natAbs m.natAbs : Nat) : Int).natAbs < 2 ^ 4096 := by
    rw [Int.natAbs_natCast]
    exact Nat.lt_of_lt_of_le (Nat.lt_of_le_of_lt hg2 h1) (pow_le _ _ (by decide))
  generalize hgg : Nat.gcd n.natAbs m.natAbs = g at *
  have e1 : mulD (.int (g : Int)) (.int 1) = some (.int (g : Int)) := by rw [mul_ok hg3 (small _ (by decide)), Int.mul_one]
  have e2 : ∀ i : Int, divD (.int i) (.int (g : Int)) = some (.int (i / g)) := fun i => div_ok (by omega) hg3
  simp [t_fraction, h0, e1, e2, hgg]
  rw [hp]
theorem e_is_less {a b : Rat} (ha : Sm 2000 a) (hb : Sm 2000 b) : t_is_less (fr a) (fr b) = tp (.bl (decide (a < b))) := by
  simp [t_is_less, mul_sm ha.1 (den_sm hb), mul_sm hb.1 (den_sm ha), lt_fr]
theorem e_greater_of {a b : Rat} (ha : Sm 2000 a) (hb : Sm 2000 b) : t_greater_of (fr a) (fr b) = tp (fr (if a < b then b else a)) := by
  simp [t_greater_of, e_is_less ha hb]
  split <;> rfl
theorem t_euclid : ∀ (k n x y : Nat), y < 2 ^ k → 2 * k + 1 ≤ n → whileT (σ := D × D) (fun s1 => (tMT (t2 gtD (tp s1.2) (tp (.int 0))))) (fun s1 => (tP2 (tCons (tp s1.2) (tCons (t2 modD (tBf intB (tCons (tp s1.1) (tp []))) (tp s1.2)) (tp []))) fun x_one_2 x_two_2 => (tp (x_one_2, x_two_2)))) n (.int (x : Int), .int (y : Int)) = tp (.int (Nat.gcd x y : Nat), .int 0)
  | k, 0, x, y, _, hn => by omega
  | k, n + 1, x, y, hy, hn => by
    by_cases g : 0 < y
    · match k, hy, hn with
      | 0, hy, hn => exact absurd hy (by simp; omega)
      | k + 1, hy, hn =>
        match n, hn with
        | n + 1, hn =>
          have m1 : modD (.int (x : Int)) (.int (y : Int)) = some (.int ((x % y : Nat) : Int)) := by rw [mod_ok (by omega), Int.natCast_emod]
          by_cases g2 : 0 < x % y
          · have m2 : modD (.int (y : Int)) (.int ((x % y : Nat) : Int)) = some (.int ((y % (x % y) : Nat) : Int)) := by rw [mod_ok (by omega)]; rfl
            have hlt : x % y < y := Nat.mod_lt _ g
            have h2 : 2 * (y % (x % y)) ≤ y := by
              have := half_mod (a := y) (b := (x % y : Nat)) (by omega) (by omega) (by omega)
              rw [← Int.natCast_emod] at this
              omega
            have ih := t_euclid k n (x % y) (y % (x % y)) (by rw [Nat.pow_succ] at hy; omega) (by omega)
            rw [show Nat.gcd (x % y) (y % (x % y)) = Nat.gcd x y by rw [Nat.gcd_comm x y, Nat.gcd_rec y x, Nat.gcd_comm (x % y) y, Nat.gcd_comm, ← Nat.gcd_rec, Nat.gcd_comm]] at ih
            unfold whileT
            have g' : (0 : Int) < (y : Int) := by omega
            simp only [x_2, d_gt, p_tO, x_MT, d_unBl, p_tb, g', decide_true, if_true, x_cons, x_Bf, d_intB, m1, x_P2, x_m2]
            unfold whileT
            have g2' : (0 : Int) < ((x % y : Nat) : Int) := by omega
            simp only [x_2, d_gt, p_tO, x_MT, d_unBl, p_tb, g2', decide_true, if_true, x_cons, x_Bf, d_intB, m2, x_P2, x_m2]
            exact ih
          · have z0 : x % y = 0 := by omega
            unfold whileT
            have g' : (0 : Int) < (y : Int) := by omega
            simp only [x_2, d_gt, p_tO, x_MT, d_unBl, p_tb, g', decide_true, if_true, x_cons, x_Bf, d_intB, m1, x_P2, x_m2]
            unfold whileT
            rw [z0]
            simp
            rw [Nat.gcd_comm, Nat.gcd_rec, z0, Nat.gcd_zero_left]
    · have y0 : y = 0 := by omega
      subst y0
      unfold whileT
      simp
theorem e_ldivisor {a b : Int} (ha : 0 ≤ a) (hb : 0 ≤ b) (h : b.natAbs < 2 ^ 490) : t__law_divisor (.int a) (.int b) = tp (.int (Nat.gcd a.natAbs b.natAbs : Nat)) := by
  have := t_euclid 490 1000 a.natAbs b.natAbs h (by decide)
  rw [show ((a.natAbs : Nat) : Int) = a by omega, show ((b.natAbs : Nat) : Int) = b by omega] at this
  unfold t__law_divisor
  rw [this]
  rfl
theorem e_f {n m : Int} (h0 : 0 < m) (h1 : m.natAbs < 2 ^ 490) : t__law_f (.int n) (.int m) = tp (fr (Rat.divInt n m)) := by
  have hg : 0 < Nat.gcd n.natAbs m.natAbs := Nat.gcd_pos_of_pos_right _ (by omega)
  have hg2 : Nat.gcd n.natAbs m.natAbs ≤ m.natAbs := Nat.gcd_le_right _ (by omega)
  have hp := part_fr (n := n) (m := m) h0
  have hg3 : ((Nat.gcd n.natAbs m.natAbs : Nat) : Int).natAbs < 2 ^ 4096 := by
    rw [Int.natAbs_natCast]
    exact Nat.lt_of_lt_of_le (Nat.lt_of_le_of_lt hg2 h1) (pow_le _ _ (by decide))
  have hc := e_ldivisor (a := (n.natAbs : Int)) (b := (m.natAbs : Int)) (by omega) (by omega) (by rw [Int.natAbs_natCast]; exact h1)
  rw [Int.natAbs_natCast, Int.natAbs_natCast] at hc
  generalize hgg : Nat.gcd n.natAbs m.natAbs = g at *
  have e2 : ∀ i : Int, divD (.int i) (.int (g : Int)) = some (.int (i / g)) := fun i => div_ok (by omega) hg3
  simp [t__law_f, hc, e2, h0, hp]
theorem cutDs_map {α : Type} (xs : List α) (f : α → D) (lo hi : Option Int) : ∃ ys : List α, cutDs (xs.map f) lo hi = ys.map f ∧ ys = (xs.drop (HT.sIx xs.length 0 lo)).take (HT.sIx xs.length xs.length hi - HT.sIx xs.length 0 lo) := by
  refine ⟨_, ?_, rfl⟩
  unfold cutDs
  rw [List.length_map, List.map_take, List.map_drop]
theorem cut_from {α : Type} (xs : List α) (f : α → D) {h : Nat} (hh : h ≤ xs.length) : cutD (.tup (xs.map f)) (some (h : Int)) none = some (.tup ((xs.drop h).map f)) := by
  show some (D.tup (cutDs (xs.map f) (some (h : Int)) none)) = _
  obtain ⟨ys, e1, e2⟩ := cutDs_map xs f (some (h : Int)) none
  rw [e1, e2]
  have : HT.sIx xs.length 0 (some (h : Int)) = h := by
    show (if (h : Int) < 0 then ((h : Int) + (xs.length : Int)).toNat else min (h : Int).toNat xs.length) = h
    rw [if_neg (by omega)]; omega
  rw [this, show HT.sIx xs.length xs.length none = xs.length from rfl]
  congr 3
  apply List.take_of_length_le
  rw [List.length_drop]
  omega
theorem cut_mid {α : Type} (xs : List α) (f : α → D) {a b : Nat} (h1 : a ≤ b) (h2 : b ≤ xs.length) : cutD (.tup (xs.map f)) (some (a : Int)) (some (b : Int)) = some (.tup (((xs.drop a).take (b - a)).map f)) := by
  show some (D.tup (cutDs (xs.map f) (some (a : Int)) (some (b : Int)))) = _
  obtain ⟨ys, e1, e2⟩ := cutDs_map xs f (some (a : Int)) (some (b : Int))
  rw [e1, e2]
  have g1 : HT.sIx xs.length 0 (some (a : Int)) = a := by
    show (if (a : Int) < 0 then ((a : Int) + (xs.length : Int)).toNat else min (a : Int).toNat xs.length) = a
    rw [if_neg (by omega)]; omega
  have g2 : HT.sIx xs.length xs.length (some (b : Int)) = b := by
    show (if (b : Int) < 0 then ((b : Int) + (xs.length : Int)).toNat else min (b : Int).toNat xs.length) = b
    rw [if_neg (by omega)]; omega
  rw [g1, g2]
theorem cut_froml {α : Type} (xs : List α) (f : α → D) {h : Nat} (hh : h ≤ xs.length) : cutD (.lst (xs.map f)) (some (h : Int)) none = some (.lst ((xs.drop h).map f)) := by
  have := cut_from xs f hh
  unfold cutD at this ⊢
  simp only [Option.some.injEq, D.tup.injEq] at this
  simp only [this]
def rngF (p n : Nat) : List D := (List.range (n - p)).map fun i : Nat => .int ((p + i : Nat) : Int)
theorem rngF_cons {p n : Nat} (h : p < n) : rngF p n = .int (p : Int) :: rngF (p + 1) n := by
  unfold rngF
  rw [show n - p = (n - (p + 1)) + 1 by omega, List.range_succ_eq_map, List.map_cons, List.map_map]
  congr 1
  apply List.map_congr_left
  intro i _
  show D.int ((p + (i + 1) : Nat) : Int) = .int ((p + 1 + i : Nat) : Int)
  congr 2
  omega
theorem rngF_nil {p n : Nat} (h : n ≤ p) : rngF p n = [] := by
  unfold rngF
  rw [show n - p = 0 by omega]
  rfl
theorem rngF_len (p n : Nat) : (rngF p n).length = n - p := by unfold rngF; simp
theorem d_range2 {p n : Nat} (h : n ≤ 1000) (h2 : p ≤ 1000) : range2 [.int (p : Int), .int (n : Int)] = some (rngF p n) := by
  show (if rgOk (p : Int) && rgOk (n : Int) then some (rgD (p : Int) ((n : Int) - p).toNat) else none) = _
  rw [if_pos (by simp [rgOk]; omega), show ((n : Int) - p).toNat = n - p by omega]
  unfold rngF rgD
  congr 1
theorem e_is_whole (i : Int) : t_is_whole (.int i) = tp (.bl true) := by simp [t_is_whole]
theorem e_is_between (i a b : Int) : t_is_between (.int i) (.int a) (.int b) = tp (.bl (decide (a ≤ i ∧ i ≤ b))) := by
  simp [t_is_between, e_is_whole]
  split <;> simp [*]
theorem e_is_tuple_of (ds : List D) (n : Int) : t_is_tuple_of (.tup ds) (.int n) = tp (.bl (decide ((ds.length : Int) = n))) := by simp [t_is_tuple_of]
theorem first_ok {α : Type} {enc : α → D} {t : D → TM D} {xs : List α} (H : ∀ x ∈ xs, t (enc x) = tp (.bl true)) :
    compL (fun d => tb (tO (unTup 2 d)) (tgCons tp fun (a2 : D) => (tgCons tp fun (a3 : D) => tgNil))) (fun v1 => tb (t v1.2.1) fun d => tb (tO (truB d)) fun a => tp (!a)) (fun v1 => (tp v1.1)) (enumD (xs.map enc)) = tp [] := by
  have hn : ∀ l : List Nat, l.filterMap (fun _ => (none : Option D)) = [] := fun l => by induction l <;> simp [*]
  rw [enum_map, compL_fm _ (fun _ => none)]
  · rw [hn]
  · intro i hi
    have hi := List.mem_range.mp hi
    have e : (xs.map enc).getD i .non = enc xs[i] := by simp [List.getD, List.getElem?_eq_getElem hi]
    rw [e]
    simp [H _ (List.getElem_mem hi)]
theorem cut_nil (hi : Option Int) : cutD (.lst []) none hi = some (.lst []) := by
  show some (D.lst (cutDs [] none hi)) = _
  unfold cutDs
  simp
theorem enum_len {α : Type} (xs : List α) (f : α → D) : (enumD (xs.map f)).length = xs.length := by unfold enumD; simp
theorem num_fr (n : Nat) (q : Rat) : numB (n + 2) (fr q) = true := rfl
theorem num_frs (n : Nat) (l : List Rat) (h : l.length ≤ 1000) : numB (n + 3) (.tup (l.map fr)) = true := by
  show (decide ((l.map fr).length ≤ 1000) && (l.map fr).all (numB (n + 2))) = true
  rw [Bool.and_eq_true, decide_eq_true_eq, List.length_map]
  exact ⟨h, List.all_eq_true.mpr fun x hx => by
    obtain ⟨q, _, rfl⟩ := List.mem_map.mp hx
    exact num_fr n q⟩
theorem isB_dict {d : D} (h : hasTy d = true) (hd : ∀ ds, d ≠ .dct ds) : isB [d, .opq (.ty "dict")] = some (.bl false) :=
  isB_of (p := fun _ => false) h (by decide +kernel) (fun _ _ => (show kitB "bool" "dict" = some false by decide +kernel)) (fun _ _ => (show kitB "int" "dict" = some false by decide +kernel)) (fun _ _ => (show kitB "str" "dict" = some false by decide +kernel)) (fun _ _ => (show kitB "tuple" "dict" = some false by decide +kernel)) (fun _ _ => (show kitB "list" "dict" = some false by decide +kernel)) (fun ds e => (hd ds e).elim)
theorem is_dct_tup (i : List D) : isB [.tup i, .opq (.ty "dict")] = some (.bl false) := isB_dict rfl (fun _ h => nomatch h)
theorem is_dct_lst (i : List D) : isB [.lst i, .opq (.ty "dict")] = some (.bl false) := isB_dict rfl (fun _ h => nomatch h)
theorem e_alike : ∀ (n : Nat) (d : D), numB n d = true → t__law_alike n d d = tp (.bl true)
  | 0, d, h => by cases h
  | n + 1, d, h => by
    have row : ∀ ds : List D, ds.length ≤ 1000 → (∀ x ∈ ds, numB n x = true) → ∀ (c : List D → D), (∀ i : Nat, (hi : i < ds.length) → ixD (c ds) (.int (i : Int)) = some ds[i]) → compL tp (fun _ => tp true) (fun k => tb (tO (ixD (c ds) k)) fun a => tb (tO (ixD (c ds) k)) fun b => t__law_alike n a b) ((List.range ds.length).map fun i : Nat => .int (i : Int)) = tp ((List.range ds.length).map fun _ => .bl true) := by
      intro ds hl hd c hc
      refine compL_map (fun i : Nat => .int (i : Int)) (fun _ => .bl true) _ _ _ _ fun i hi => ?_
      have hi := List.mem_range.mp hi
      simp [hc i hi, e_alike n _ (hd _ (List.getElem_mem hi))]
    cases d <;> try (cases h; done)
    · simp [t__law_alike]
    · simp [t__law_alike]
    · rename_i ds
      have h' : (decide (ds.length ≤ 1000) && ds.all (numB n)) = true := h
      rw [Bool.and_eq_true, decide_eq_true_eq] at h'
      have r := row ds h'.1 (fun x hx => List.all_eq_true.mp h'.2 x hx) .tup fun i hi => d_ix (List.getElem?_eq_getElem hi)
      have hl : ds.length ≤ 100000 := by omega
      simp [t__law_alike, d_range1 (show ds.length ≤ 1000000 by omega), r, all_trues, hl, is_dct_tup]
    · rename_i ds
      have h' : (decide (ds.length ≤ 1000) && ds.all (numB n)) = true := h
      rw [Bool.and_eq_true, decide_eq_true_eq] at h'
      have r := row ds h'.1 (fun x hx => List.all_eq_true.mp h'.2 x hx) .lst fun i hi => d_ixl (List.getElem?_eq_getElem hi)
      have hl : ds.length ≤ 100000 := by omega
      simp [t__law_alike, d_range1 (show ds.length ≤ 1000000 by omega), r, all_trues, hl, is_dct_lst]
/-! greatest, least -/
def mx (f e : Rat) : Rat := if f < e then e else f
def mn (f e : Rat) : Rat := if e < f then e else f
def maxR : List Rat → Rat
  | [] => 0
  | x :: xs => xs.foldl mx x
def minR : List Rat → Rat
  | [] => 0
  | x :: xs => xs.foldl mn x
theorem mx_fold (l : List Rat) (x : Rat) : x ≤ l.foldl mx x ∧ (∀ y ∈ l, y ≤ l.foldl mx x) ∧ (l.foldl mx x = x ∨ l.foldl mx x ∈ l) := by
  induction l generalizing x with
  | nil => exact ⟨Rat.le_refl, fun _ h => (nomatch h), .inl rfl⟩
  | cons a l ih =>
    obtain ⟨h1, h2, h3⟩ := ih (mx x a)
    rw [List.foldl_cons]
    have e1 : x ≤ mx x a := by unfold mx; split <;> grind
    have e2 : a ≤ mx x a := by unfold mx; split <;> grind
    refine ⟨Rat.le_trans e1 h1, fun y hy => ?_, ?_⟩
    · rcases List.mem_cons.mp hy with rfl | hy
      · exact Rat.le_trans e2 h1
      · exact h2 y hy
    · rcases h3 with h3 | h3
      · rw [h3]
        unfold mx
        split
        · exact .inr List.mem_cons_self
        · exact .inl rfl
      · exact .inr (List.mem_cons_of_mem _ h3)
theorem mn_fold (l : List Rat) (x : Rat) : l.foldl mn x ≤ x ∧ (∀ y ∈ l, l.foldl mn x ≤ y) ∧ (l.foldl mn x = x ∨ l.foldl mn x ∈ l) := by
  induction l generalizing x with
  | nil => exact ⟨Rat.le_refl, fun _ h => (nomatch h), .inl rfl⟩
  | cons a l ih =>
    obtain ⟨h1, h2, h3⟩ := ih (mn x a)
    rw [List.foldl_cons]
    have e1 : mn x a ≤ x := by unfold mn; split <;> grind
    have e2 : mn x a ≤ a := by unfold mn; split <;> grind
    refine ⟨Rat.le_trans h1 e1, fun y hy => ?_, ?_⟩
    · rcases List.mem_cons.mp hy with rfl | hy
      · exact Rat.le_trans h1 e2
      · exact h2 y hy
    · rcases h3 with h3 | h3
      · rw [h3]
        unfold mn
        split
        · exact .inr List.mem_cons_self
        · exact .inl rfl
      · exact .inr (List.mem_cons_of_mem _ h3)
theorem le_maxR {l : List Rat} {x : Rat} (h : x ∈ l) : x ≤ maxR l := by
  cases l with
  | nil => cases h
  | cons a l =>
    obtain ⟨h1, h2, _⟩ := mx_fold l a
    rcases List.mem_cons.mp h with rfl | h
    · exact h1
    · exact h2 x h
theorem maxR_mem {l : List Rat} (h : l ≠ []) : maxR l ∈ l := by
  cases l with
  | nil => exact (h rfl).elim
  | cons a l =>
    obtain ⟨_, _, h3⟩ := mx_fold l a
    rcases h3 with h3 | h3
    · show l.foldl mx a ∈ _; rw [h3]; exact List.mem_cons_self
    · exact List.mem_cons_of_mem _ h3
theorem minR_le {l : List Rat} {x : Rat} (h : x ∈ l) : minR l ≤ x := by
  cases l with
  | nil => cases h
  | cons a l =>
    obtain ⟨h1, h2, _⟩ := mn_fold l a
    rcases List.mem_cons.mp h with rfl | h
    · exact h1
    · exact h2 x h
theorem minR_mem {l : List Rat} (h : l ≠ []) : minR l ∈ l := by
  cases l with
  | nil => exact (h rfl).elim
  | cons a l =>
    obtain ⟨_, _, h3⟩ := mn_fold l a
    rcases h3 with h3 | h3
    · show l.foldl mn a ∈ _; rw [h3]; exact List.mem_cons_self
    · exact List.mem_cons_of_mem _ h3
theorem maxR_le {l : List Rat} {y : Rat} (hne : l ≠ []) (h : ∀ x ∈ l, x ≤ y) : maxR l ≤ y := h _ (maxR_mem hne)
theorem le_minR {l : List Rat} {y : Rat} (hne : l ≠ []) (h : ∀ x ∈ l, y ≤ x) : y ≤ minR l := h _ (minR_mem hne)
def SmL (k : Nat) (l : List Rat) : Prop := ∀ x ∈ l, Sm k x
theorem SmL.max {k : Nat} {l : List Rat} (h : SmL k l) (hne : l ≠ []) : Sm k (maxR l) := h _ (maxR_mem hne)
theorem SmL.min {k : Nat} {l : List Rat} (h : SmL k l) (hne : l ≠ []) : Sm k (minR l) := h _ (minR_mem hne)
theorem fold_fr (f : Rat → Rat → Rat) (k : Nat) (hf : ∀ a b, f a b = a ∨ f a b = b) {body : D → D → TM D} (hb : ∀ a b, Sm k a → Sm k b → body (fr b) (fr a) = tp (fr (f a b))) {l : List Rat} (h : SmL k l) {x : Rat} (hx : Sm k x) : forL body (l.map fr) (fr x) = tp (fr (l.foldl f x)) := by
  refine forL_foldI (enc := fr) (es := fr) (f := f) (I := fun xs s => SmL k xs ∧ Sm k s) body l x (fun y xs s ⟨h1, h2⟩ => ?_) ⟨h, hx⟩
  have hy := h1 y List.mem_cons_self
  refine ⟨hb s y h2 hy, fun z hz => h1 z (List.mem_cons_of_mem _ hz), ?_⟩
  rcases hf s y with e | e <;> rw [e]
  · exact h2
  · exact hy
theorem mx_or (a b : Rat) : mx a b = a ∨ mx a b = b := by unfold mx; split; exact .inr rfl; exact .inl rfl
theorem mn_or (a b : Rat) : mn a b = a ∨ mn a b = b := by unfold mn; split; exact .inr rfl; exact .inl rfl
theorem e_lbelow {a b : Rat} (ha : Sm 2000 a) (hb : Sm 2000 b) : t__law_below (fr a) (fr b) = tp (.bl (decide (a < b))) := by
  simp [t__law_below, mul_sm ha.1 (den_sm hb), mul_sm hb.1 (den_sm ha), lt_fr]
end FL
namespace FL
open PySem PySem.Spec L2
theorem mx_self (x : Rat) : mx x x = x := by unfold mx; split <;> rfl
theorem mn_self (x : Rat) : mn x x = x := by unfold mn; split <;> rfl
theorem e_lmost {l : List Rat} (h : SmL 2000 l) (hne : l ≠ []) (hl : l.length ≤ 1000) : t__law_most (.lst (l.map fr)) = tp (fr (maxR l)) := by
  cases l with
  | nil => exact (hne rfl).elim
  | cons x l =>
    have hx := h x List.mem_cons_self
    have hl2 : l.length + 1 ≤ 100000 := by rw [List.length_cons] at hl; omega
    have key := fold_fr mx 2000 mx_or (body := fun d s1 => tb (t__law_below s1 d) fun k => tb (tO (truB k)) fun k => if k = true then tp d else tp s1) (l := x :: l) (x := x) (fun a b ha hb => by
      simp only [e_lbelow ha hb, p_tb, d_trub, p_tO, decide_eq_true_eq]
      unfold mx
      split <;> rfl) h hx
    rw [show (x :: l).foldl mx x = maxR (x :: l) by rw [List.foldl_cons, mx_self]; rfl] at key
    rw [List.map_cons] at key
    simp [t__law_most, hl2, key]
theorem e_lleast {l : List Rat} (h : SmL 2000 l) (hne : l ≠ []) (hl : l.length ≤ 1000) : t__law_least (.lst (l.map fr)) = tp (fr (minR l)) := by
  cases l with
  | nil => exact (hne rfl).elim
  | cons x l =>
    have hx := h x List.mem_cons_self
    have hl2 : l.length + 1 ≤ 100000 := by rw [List.length_cons] at hl; omega
    have key := fold_fr mn 2000 mn_or (body := fun d s1 => tb (t__law_below d s1) fun k => tb (tO (truB k)) fun k => if k = true then tp d else tp s1) (l := x :: l) (x := x) (fun a b ha hb => by
      simp only [e_lbelow hb ha, p_tb, d_trub, p_tO, decide_eq_true_eq]
      unfold mn
      split <;> rfl) h hx
    rw [show (x :: l).foldl mn x = minR (x :: l) by rw [List.foldl_cons, mn_self]; rfl] at key
    rw [List.map_cons] at key
    simp [t__law_least, hl2, key]
theorem e_lesser_of {a b : Rat} (ha : Sm 2000 a) (hb : Sm 2000 b) : t_lesser_of (fr a) (fr b) = tp (fr (if b < a then b else a)) := by
  simp [t_lesser_of, e_is_less hb ha]
  split <;> rfl
theorem e_greatest_of {l : List Rat} (h : SmL 2000 l) (hne : l ≠ []) (hl : l.length ≤ 1000) : t_greatest_of (.lst (l.map fr)) = tp (fr (maxR l)) := by
  cases l with
  | nil => exact (hne rfl).elim
  | cons x l =>
    have hx := h x List.mem_cons_self
    have hl2 : l.length ≤ 100000 := by rw [List.length_cons] at hl; omega
    have key := fold_fr mx 2000 mx_or (body := fun d s1 => t_greater_of s1 d) (l := l) (x := x) (fun a b ha hb => e_greater_of ha hb) (fun y hy => h y (List.mem_cons_of_mem _ hy)) hx
    have ec := cut_froml (x :: l) fr (h := 1) (by simp)
    rw [List.map_cons] at ec
    have ec' : cutD (.lst (fr x :: l.map fr)) (some 1) none = some (.lst (l.map fr)) := ec
    simp [t_greatest_of, ec', hl2, key]
    rfl
theorem e_least_of {l : List Rat} (h : SmL 2000 l) (hne : l ≠ []) (hl : l.length ≤ 1000) : t_least_of (.lst (l.map fr)) = tp (fr (minR l)) := by
  cases l with
  | nil => exact (hne rfl).elim
  | cons x l =>
    have hx := h x List.mem_cons_self
    have hl2 : l.length ≤ 100000 := by rw [List.length_cons] at hl; omega
    have key := fold_fr mn 2000 mn_or (body := fun d s1 => t_lesser_of s1 d) (l := l) (x := x) (fun a b ha hb => e_lesser_of ha hb) (fun y hy => h y (List.mem_cons_of_mem _ hy)) hx
    have ec := cut_froml (x :: l) fr (h := 1) (by simp)
    rw [List.map_cons] at ec
    have ec' : cutD (.lst (fr x :: l.map fr)) (some 1) none = some (.lst (l.map fr)) := ec
    simp [t_least_of, ec', hl2, key]
    rfl
end FL
namespace FL
open PySem PySem.Spec L2
/-! rising rows by means: plain mathematics -/
def kD (k : Int × Int) : D := .tup [.int k.1, .int k.2]
def vsD (vs : List (Int × Int)) : D := .tup (vs.map kD)
structure GoodV (vs : List (Int × Int)) : Prop where
  h1 : 1 ≤ vs.length
  h9 : vs.length ≤ 9
  ok : ∀ v ∈ vs, -9999 ≤ v.1 ∧ v.1 ≤ 9999 ∧ 1 ≤ v.2 ∧ v.2 ≤ 999
def seg (vs : List (Int × Int)) (a b : Nat) : List (Int × Int) := (vs.drop a).take (b + 1 - a)
def sxw (l : List (Int × Int)) : Int := (l.map fun v => v.1 * v.2).sum
def sw (l : List (Int × Int)) : Int := (l.map fun v => v.2).sum
def meanR (vs : List (Int × Int)) (a b : Nat) : Rat := Rat.divInt (sxw (seg vs a b)) (sw (seg vs a b))
/-- prefix sums of W times (X less v) -/
def FV (vs : List (Int × Int)) (v : Rat) (n : Nat) : Rat := ((vs.take n).map fun k => (k.2 : Rat) * ((k.1 : Rat) - v)).sum
theorem sum_app (a b : List Rat) : (a ++ b).sum = a.sum + b.sum := List.sum_append ..
theorem fv_seg (vs : List (Int × Int)) (v : Rat) {a b : Nat} (h : a ≤ b + 1) : ((seg vs a b).map fun k => (k.2 : Rat) * ((k.1 : Rat) - v)).sum = FV vs v (b + 1) - FV vs v a := by
  have e : vs.take (b + 1) = vs.take a ++ seg vs a b := by
    unfold seg
    rw [show b + 1 = a + (b + 1 - a) by omega, List.take_add, show a + (b + 1 - a) - a = b + 1 - a by omega]
  unfold FV
  rw [e, List.map_append, sum_app]
  grind
theorem lin_sum (l : List (Int × Int)) (v : Rat) : (l.map fun k => (k.2 : Rat) * ((k.1 : Rat) - v)).sum = (sxw l : Rat) - v * (sw l : Rat) := by
  induction l with
  | nil => show (0 : Rat) = ((0 : Int) : Rat) - v * ((0 : Int) : Rat); grind
  | cons k l ih =>
    rw [List.map_cons, List.sum_cons, ih]
    have e1 : sxw (k :: l) = k.1 * k.2 + sxw l := by unfold sxw; rw [List.map_cons, List.sum_cons]
    have e2 : sw (k :: l) = k.2 + sw l := by unfold sw; rw [List.map_cons, List.sum_cons]
    rw [e1, e2, Rat.intCast_add, Rat.intCast_add, Rat.intCast_mul]
    grind
theorem sw_pos {l : List (Int × Int)} (h : ∀ v ∈ l, 1 ≤ v.2) (hne : l ≠ []) : 0 < sw l := by
  have key : ∀ l : List (Int × Int), (∀ v ∈ l, 1 ≤ v.2) → (l.length : Int) ≤ sw l := by
    intro l
    induction l with
    | nil => intro _; exact Int.le_refl 0
    | cons k l ih =>
      intro h
      have := ih fun v hv => h v (List.mem_cons_of_mem _ hv)
      have h2 := h k List.mem_cons_self
      have e2 : sw (k :: l) = k.2 + sw l := by unfold sw; rw [List.map_cons, List.sum_cons]
      rw [e2, List.length_cons]
      omega
  have h1 := key l h
  have : 0 < l.length := List.length_pos_iff.mpr hne
  omega
theorem mem_seg {vs : List (Int × Int)} {a b : Nat} {v : Int × Int} (h : v ∈ seg vs a b) : v ∈ vs := List.mem_of_mem_drop (List.mem_of_mem_take h)
theorem seg_len {vs : List (Int × Int)} {a b : Nat} (h : b < vs.length) : (seg vs a b).length = b + 1 - a := by unfold seg; rw [List.length_take, List.length_drop]; omega
theorem seg_ne {vs : List (Int × Int)} {a b : Nat} (hab : a ≤ b) (h : b < vs.length) : seg vs a b ≠ [] := fun e => by
  have := seg_len (a := a) h
  rw [e] at this
  simp at this
  omega
theorem divInt_eq (n : Int) {m : Int} (h : 0 < m) : Rat.divInt n m * (m : Rat) = (n : Rat) := by
  have e1 : (m : Rat) = Rat.divInt m 1 := (Rat.num_divInt_den (m : Rat)).symm
  rw [e1, Rat.divInt_mul_divInt, Int.mul_comm m 1, Rat.divInt_mul_right (by omega)]
  exact Rat.num_divInt_den (n : Rat)
section
variable {vs : List (Int × Int)}
theorem GoodV.sw (G : GoodV vs) {a b : Nat} (hab : a ≤ b) (h : b < vs.length) : 0 < FL.sw (seg vs a b) := sw_pos (fun v hv => (G.ok v (mem_seg hv)).2.2.1) (seg_ne hab h)
theorem mean_eq (G : GoodV vs) {a b : Nat} (hab : a ≤ b) (h : b < vs.length) (v : Rat) : (FL.sw (seg vs a b) : Rat) * (meanR vs a b - v) = FV vs v (b + 1) - FV vs v a := by
  rw [← fv_seg vs v (by omega), lin_sum]
  have := divInt_eq (sxw (seg vs a b)) (G.sw hab h)
  unfold meanR
  grind
theorem pos_cast {m : Int} (h : 0 < m) : (0 : Rat) < (m : Rat) := by
  have := (Rat.intCast_lt_intCast (a := 0) (b := m)).mpr h
  simpa using this
theorem mean_le (G : GoodV vs) {a b : Nat} (hab : a ≤ b) (h : b < vs.length) (v : Rat) : meanR vs a b ≤ v ↔ FV vs v (b + 1) ≤ FV vs v a := by
  have e := mean_eq G hab h v
  have p := pos_cast (G.sw hab h)
  constructor
  · intro z
    have := Rat.mul_le_mul_of_nonneg_left (show meanR vs a b - v ≤ 0 by grind) (Rat.le_of_lt p)
    grind
  · intro z
    by_cases c : v < meanR vs a b
    · have := Rat.mul_pos p (show 0 < meanR vs a b - v by grind)
      grind
    · grind
theorem mean_ge (G : GoodV vs) {a b : Nat} (hab : a ≤ b) (h : b < vs.length) (v : Rat) : v ≤ meanR vs a b ↔ FV vs v a ≤ FV vs v (b + 1) := by
  have e := mean_eq G hab h v
  have p := pos_cast (G.sw hab h)
  constructor
  · intro z
    have := Rat.mul_nonneg (Rat.le_of_lt p) (show 0 ≤ meanR vs a b - v by grind)
    grind
  · intro z
    by_cases c : meanR vs a b < v
    · have := Rat.mul_pos p (show 0 < v - meanR vs a b by grind)
      grind
    · grind
/-- the means from a on, of the ends p .. -/
def msB (vs : List (Int × Int)) (p a : Nat) : List Rat := (List.range (vs.length - p)).map fun i => meanR vs a (p + i)
def msA (vs : List (Int × Int)) (p b : Nat) : List Rat := (List.range (p + 1)).map fun a => meanR vs a b
def rise (vs : List (Int × Int)) (p : Nat) : Rat := maxR ((List.range (p + 1)).map fun a => minR (msB vs p a))
def riseM (vs : List (Int × Int)) (p : Nat) : Rat := minR ((List.range (vs.length - p)).map fun i => maxR (msA vs p (p + i)))
theorem range_ne {n : Nat} {α : Type} {f : Nat → α} (h : 0 < n) : (List.range n).map f ≠ [] := fun e => by
  have : ((List.range n).map f).length = 0 := by rw [e]; rfl
  simp at this
  omega
theorem mem_rng {α : Type} {f : Nat → α} {n i : Nat} (h : i < n) : f i ∈ (List.range n).map f := List.mem_map.mpr ⟨i, List.mem_range.mpr h, rfl⟩
theorem rise_ge {p : Nat} (hp : p < vs.length) : ∃ a, a ≤ p ∧ ∀ b, p ≤ b → b < vs.length → rise vs p ≤ meanR vs a b := by
  have := maxR_mem (range_ne (f := fun a => minR (msB vs p a)) (show 0 < p + 1 by omega))
  obtain ⟨a, ha, e⟩ := List.mem_map.mp this
  refine ⟨a, by have := List.mem_range.mp ha; omega, fun b h1 h2 => ?_⟩
  show maxR _ ≤ _
  rw [← e]
  refine minR_le (List.mem_map.mpr ⟨b - p, List.mem_range.mpr (by omega), ?_⟩)
  rw [show p + (b - p) = b by omega]
theorem rise_le {p : Nat} (hp : p < vs.length) {a : Nat} (ha : a ≤ p) : ∃ b, p ≤ b ∧ b < vs.length ∧ meanR vs a b ≤ rise vs p := by
  have := minR_mem (range_ne (f := fun i => meanR vs a (p + i)) (show 0 < vs.length - p by omega))
  obtain ⟨i, hi, e⟩ := List.mem_map.mp this
  have hi := List.mem_range.mp hi
  refine ⟨p + i, by omega, by omega, ?_⟩
  rw [e]
  exact le_maxR (List.mem_map.mpr ⟨a, List.mem_range.mpr (by omega), rfl⟩)
theorem least_at (f : Nat → Rat) : ∀ n : Nat, 0 < n → ∃ i, i < n ∧ ∀ j, j < n → f i ≤ f j
  | 0, h => by omega
  | 1, _ => ⟨0, by omega, fun j hj => by rw [show j = 0 by omega]; exact Rat.le_refl⟩
  | n + 2, _ => by
    obtain ⟨i, h1, h2⟩ := least_at f (n + 1) (by omega)
    by_cases c : f (n + 1) < f i
    · refine ⟨n + 1, by omega, fun j hj => ?_⟩
      by_cases e : j = n + 1
      · rw [e]; exact Rat.le_refl
      · have := h2 j (by omega)
        grind
    · refine ⟨i, by omega, fun j hj => ?_⟩
      by_cases e : j = n + 1
      · rw [e]; grind
      · exact h2 j (by omega)
theorem min_max (G : GoodV vs) {p : Nat} (hp : p < vs.length) : riseM vs p = rise vs p := by
  refine Rat.le_antisymm ?_ ?_
  · obtain ⟨i, h1, h2⟩ := least_at (fun i => FV vs (rise vs p) (p + i + 1)) (vs.length - p) (by omega)
    refine Rat.le_trans (minR_le (mem_rng (f := fun i => maxR (msA vs p (p + i))) h1)) ?_
    refine maxR_le (range_ne (by omega)) fun x hx => ?_
    obtain ⟨a, ha, rfl⟩ := List.mem_map.mp hx
    have ha := List.mem_range.mp ha
    obtain ⟨b, b1, b2, b3⟩ := rise_le (vs := vs) hp (a := a) (by omega)
    rw [mean_le G (by omega) b2] at b3
    rw [mean_le G (by omega) (by omega)]
    have := h2 (b - p) (by omega)
    simp only [show p + (b - p) = b by omega] at this
    exact Rat.le_trans this b3
  · refine le_minR (range_ne (by omega)) fun x hx => ?_
    obtain ⟨i, hi, rfl⟩ := List.mem_map.mp hx
    have hi := List.mem_range.mp hi
    obtain ⟨a, a1, a2⟩ := rise_ge (vs := vs) hp
    exact Rat.le_trans (a2 (p + i) (by omega) (by omega)) (le_maxR (mem_rng (f := fun a => meanR vs a (p + i)) (show a < p + 1 by omega)))
theorem rise_mono {p : Nat} (hp : p + 1 < vs.length) : rise vs p ≤ rise vs (p + 1) := by
  obtain ⟨a, a1, a2⟩ := rise_ge (vs := vs) (p := p) (by omega)
  obtain ⟨b, b1, b2, b3⟩ := rise_le (vs := vs) hp (a := a) (by omega)
  exact Rat.le_trans (a2 b (by omega) b2) b3
def xs (vs : List (Int × Int)) (i : Nat) : Int := (vs.getD i (0, 0)).1
theorem fv_succ {n : Nat} (h : n < vs.length) (v : Rat) : FV vs v (n + 1) = FV vs v n + ((vs.getD n (0, 0)).2 : Rat) * ((xs vs n : Rat) - v) := by
  unfold FV xs
  have e : vs.getD n (0, 0) = vs[n] := by simp [List.getD, List.getElem?_eq_getElem h]
  rw [e, List.take_succ_eq_append_getElem h, List.map_append, sum_app]
  simp
  grind
theorem fv_up (G : GoodV vs) (v : Rat) {a : Nat} : ∀ k : Nat, a + k ≤ vs.length → (∀ i, a ≤ i → i < a + k → v ≤ (xs vs i : Rat)) → FV vs v a ≤ FV vs v (a + k)
  | 0, _, _ => Rat.le_refl
  | k + 1, h, q => by
    have ih := fv_up G v (a := a) k (by omega) fun i h1 h2 => q i h1 (by omega)
    rw [show a + (k + 1) = (a + k) + 1 by omega, fv_succ (by omega)]
    have w : 0 < (vs.getD (a + k) (0, 0)).2 := by
      have e : vs.getD (a + k) (0, 0) = vs[a + k]'(by omega) := by simp [List.getD, List.getElem?_eq_getElem (show a + k < vs.length by omega)]
      rw [e]
      have := (G.ok _ (List.getElem_mem (show a + k < vs.length by omega))).2.2.1
      omega
    have := Rat.mul_nonneg (Rat.le_of_lt (pos_cast w)) (show 0 ≤ (xs vs (a + k) : Rat) - v by have := q (a + k) (by omega) (by omega); grind)
    grind
theorem fv_down (G : GoodV vs) (v : Rat) {a : Nat} : ∀ k : Nat, a + k ≤ vs.length → (∀ i, a ≤ i → i < a + k → (xs vs i : Rat) ≤ v) → FV vs v (a + k) ≤ FV vs v a
  | 0, _, _ => Rat.le_refl
  | k + 1, h, q => by
    have ih := fv_down G v (a := a) k (by omega) fun i h1 h2 => q i h1 (by omega)
    rw [show a + (k + 1) = (a + k) + 1 by omega, fv_succ (by omega)]
    have w : 0 < (vs.getD (a + k) (0, 0)).2 := by
      have e : vs.getD (a + k) (0, 0) = vs[a + k]'(by omega) := by simp [List.getD, List.getElem?_eq_getElem (show a + k < vs.length by omega)]
      rw [e]
      have := (G.ok _ (List.getElem_mem (show a + k < vs.length by omega))).2.2.1
      omega
    have := Rat.mul_nonneg (Rat.le_of_lt (pos_cast w)) (show 0 ≤ v - (xs vs (a + k) : Rat) by have := q (a + k) (by omega) (by omega); grind)
    grind
theorem xs_up {i j : Nat} (h : ∀ i, i + 1 < vs.length → xs vs i ≤ xs vs (i + 1)) (hij : i ≤ j) (hj : j < vs.length) : xs vs i ≤ xs vs j := by
  obtain ⟨k, rfl⟩ : ∃ k, j = i + k := ⟨j - i, by omega⟩
  clear hij
  induction k with
  | zero => exact Int.le_refl _
  | succ k ih => exact Int.le_trans (ih (by omega)) (h (i + k) (by omega))
theorem rise_self (G : GoodV vs) (h : ∀ i, i + 1 < vs.length → xs vs i ≤ xs vs (i + 1)) {p : Nat} (hp : p < vs.length) : rise vs p = (xs vs p : Rat) := by
  refine Rat.le_antisymm ?_ ?_
  · obtain ⟨a, a1, a2⟩ := rise_ge (vs := vs) hp
    refine Rat.le_trans (a2 p (Nat.le_refl _) hp) ?_
    rw [mean_le G a1 hp]
    have := fv_down G (xs vs p : Rat) (a := a) (p + 1 - a) (by omega) fun i h1 h2 => Rat.intCast_le_intCast.mpr (xs_up h (by omega) hp)
    rw [show a + (p + 1 - a) = p + 1 by omega] at this
    exact this
  · obtain ⟨b, b1, b2, b3⟩ := rise_le (vs := vs) hp (a := p) (Nat.le_refl _)
    refine Rat.le_trans ?_ b3
    rw [mean_ge G b1 b2]
    have := fv_up G (xs vs p : Rat) (a := p) (b + 1 - p) (by omega) fun i h1 h2 => Rat.intCast_le_intCast.mpr (xs_up h h1 (by omega))
    rw [show p + (b + 1 - p) = b + 1 by omega] at this
    exact this
theorem rise_iff (G : GoodV vs) : (∀ p, p < vs.length → rise vs p = (xs vs p : Rat)) ↔ ∀ i, i + 1 < vs.length → xs vs i ≤ xs vs (i + 1) := by
  refine ⟨fun h i hi => ?_, fun h p hp => rise_self G h hp⟩
  have := rise_mono (vs := vs) (p := i) hi
  rw [h i (by omega), h (i + 1) hi] at this
  exact Rat.intCast_le_intCast.mp this
end
end FL
namespace FL
open PySem PySem.Spec L2
section
variable {vs : List (Int × Int)}
theorem e_is_value_by {v : Int × Int} (h : -9999 ≤ v.1 ∧ v.1 ≤ 9999 ∧ 1 ≤ v.2 ∧ v.2 ≤ 999) : t_is_value_by (kD v) = tp (.bl true) := by
  obtain ⟨h1, h2, h3, h4⟩ := h
  have t2 : t_is_tuple_of (kD v) (.int 2) = tp (.bl true) := e_is_tuple_of [.int v.1, .int v.2] 2
  simp [t_is_value_by, t2]
  simp [kD, e_is_between, h1, h2, h3, h4]
theorem e_first_value (G : GoodV vs) : t_first_wrong__is_value_by (vsD vs) (.int 1) (.int 9) (.dfn "is_value_by") = tp (.lst []) := by
  have hf := first_ok (t := t_is_value_by) (xs := vs) (enc := kD) fun x hx => e_is_value_by (G.ok x hx)
  have hl : vs.length ≤ 100000 := by have := G.h9; omega
  have h1 : (1 : Int) ≤ (vs.length : Int) := by have := G.h1; omega
  have h2 : (vs.length : Int) ≤ 9 := by have := G.h9; omega
  simp [t_first_wrong__is_value_by, vsD, h1, h2, d_enum, enum_len, hl, hf, cut_nil]
theorem e_check_values (G : GoodV vs) : t_check_values (vsD vs) = tp .non := by
  simp [t_check_values, t_wrong_in_values, e_first_value G]
  rfl
theorem e_cut {a b : Nat} (hab : a ≤ b) (h : b < vs.length) : cutD (vsD vs) (some (a : Int)) (some ((b : Int) + 1)) = some (.tup ((seg vs a b).map kD)) := by
  have := cut_mid vs kD (a := a) (b := b + 1) (by omega) h
  exact this
theorem abs_sxw {l : List (Int × Int)} (h : ∀ v ∈ l, -9999 ≤ v.1 ∧ v.1 ≤ 9999 ∧ 1 ≤ v.2 ∧ v.2 ≤ 999) : (sxw l).natAbs ≤ l.length * 9989001 ∧ (sw l).natAbs ≤ l.length * 999 := by
  induction l with
  | nil => exact ⟨Nat.zero_le _, Nat.zero_le _⟩
  | cons k l ih =>
    obtain ⟨i1, i2⟩ := ih fun v hv => h v (List.mem_cons_of_mem _ hv)
    obtain ⟨h1, h2, h3, h4⟩ := h k List.mem_cons_self
    have e1 : sxw (k :: l) = k.1 * k.2 + sxw l := by unfold sxw; rw [List.map_cons, List.sum_cons]
    have e2 : sw (k :: l) = k.2 + sw l := by unfold sw; rw [List.map_cons, List.sum_cons]
    have e3 : (k.1 * k.2).natAbs ≤ 9989001 := by
      rw [Int.natAbs_mul]
      exact Nat.mul_le_mul (show k.1.natAbs ≤ 9999 by omega) (show k.2.natAbs ≤ 999 by omega)
    rw [e1, e2, List.length_cons]
    omega
theorem seg_ok (G : GoodV vs) (a b : Nat) : ∀ v ∈ seg vs a b, -9999 ≤ v.1 ∧ v.1 ≤ 9999 ∧ 1 ≤ v.2 ∧ v.2 ≤ 999 := fun v hv => G.ok v (mem_seg hv)
theorem seg_le (a b : Nat) : (seg vs a b).length ≤ vs.length := by unfold seg; rw [List.length_take, List.length_drop]; omega
theorem e_sxw {l : List (Int × Int)} (h : ∀ v ∈ l, -9999 ≤ v.1 ∧ v.1 ≤ 9999 ∧ 1 ≤ v.2 ∧ v.2 ≤ 999) : compL (fun d => tb (tO (unTup 2 d)) (tgCons tp fun (a2 : D) => (tgCons tp fun (a3 : D) => tgNil))) (fun v1 => tp true) (fun v1 => tO (mulD v1.1 v1.2.1)) (l.map kD) = tp ((l.map fun v => v.1 * v.2).map .int) := by
  rw [List.map_map]
  refine compL_map kD _ _ _ _ l fun v hv => ?_
  obtain ⟨h1, h2, h3, h4⟩ := h v hv
  have := mul_i (x := v.1) (y := v.2) (by omega) (by omega)
  simp [kD, this]
theorem e_sw {l : List (Int × Int)} : compL (fun d => tb (tO (unTup 2 d)) (tgCons tp fun (a2 : D) => (tgCons tp fun (a3 : D) => tgNil))) (fun v1 => tp true) (fun v1 => tp v1.2.1) (l.map kD) = tp ((l.map fun v => v.2).map .int) := by
  rw [List.map_map]
  refine compL_map kD _ _ _ _ l fun v hv => ?_
  simp [kD]
theorem e_mean_by (G : GoodV vs) {a b : Nat} (hab : a ≤ b) (h : b < vs.length) : t_mean_by (vsD vs) (.int (a : Int)) (.int (b : Int)) = tp (fr (meanR vs a b)) := by
  have hl := seg_le (vs := vs) a b
  have h9 := G.h9
  have hl2 : (seg vs a b).length ≤ 100000 := by omega
  have hp := G.sw hab h
  have hb := (abs_sxw (seg_ok G a b)).2
  have e := e_fraction (n := sxw (seg vs a b)) hp (Nat.lt_of_le_of_lt (show (sw (seg vs a b)).natAbs ≤ 2 ^ 20 by omega) (Nat.pow_lt_pow_right (by decide) (by decide)))
  have s1 := sum_map ((seg vs a b).map fun v => v.1 * v.2)
  have s2 := sum_map ((seg vs a b).map fun v => v.2)
  simp [t_mean_by, e_cut hab h, hl2, e_sxw (seg_ok G a b), e_sw, -List.map_map, s1, s2]
  exact e
theorem e_lmean (G : GoodV vs) {a b : Nat} (hab : a ≤ b) (h : b < vs.length) : t__law_mean (vsD vs) (.int (a : Int)) (.int (b : Int)) = tp (fr (meanR vs a b)) := by
  have hl := seg_le (vs := vs) a b
  have h9 := G.h9
  have hl2 : (seg vs a b).length ≤ 100000 := by omega
  have hp := G.sw hab h
  have hb := (abs_sxw (seg_ok G a b)).2
  have e := e_f (n := sxw (seg vs a b)) hp (Nat.lt_of_le_of_lt (show (sw (seg vs a b)).natAbs ≤ 2 ^ 20 by omega) (Nat.pow_lt_pow_right (by decide) (by decide)))
  have s1 := sum_map ((seg vs a b).map fun v => v.1 * v.2)
  have s2 := sum_map ((seg vs a b).map fun v => v.2)
  simp [t__law_mean, e_cut hab h, hl2, e_sxw (seg_ok G a b), e_sw, -List.map_map, s1, s2]
  exact e
theorem sm_mean (G : GoodV vs) {a b : Nat} (hab : a ≤ b) (h : b < vs.length) : Sm 30 (meanR vs a b) := by
  have hl := seg_le (vs := vs) a b
  have h9 := G.h9
  obtain ⟨h1, h2⟩ := abs_sxw (seg_ok G a b)
  exact sm_div (G.sw hab h) (by omega) (by omega)
theorem sm_msB (G : GoodV vs) {p a : Nat} (ha : a ≤ p) : SmL 30 (msB vs p a) := fun x hx => by
  obtain ⟨i, hi, rfl⟩ := List.mem_map.mp hx
  have := List.mem_range.mp hi
  exact sm_mean G (by omega) (by omega)
theorem sm_msA (G : GoodV vs) {p b : Nat} (hp : p ≤ b) (hb : b < vs.length) : SmL 30 (msA vs p b) := fun x hx => by
  obtain ⟨i, hi, rfl⟩ := List.mem_map.mp hx
  have := List.mem_range.mp hi
  exact sm_mean G (by omega) hb
theorem SmL.mono {j k : Nat} {l : List Rat} (h : SmL j l) (e : j ≤ k) : SmL k l := fun x hx => (h x hx).mono e
theorem vs_len : lenB [vsD vs] = some (.int (vs.length : Int)) := by unfold vsD; rw [d_len, List.length_map]
theorem d_range1s {p : Nat} (h : p ≤ 1000) : range1 [.int ((p : Int) + 1)] = some ((List.range (p + 1)).map fun i : Nat => .int (i : Int)) := d_range1 (n := p + 1) (by omega)
theorem comp_msB (G : GoodV vs) {p a : Nat} (ha : a ≤ p) {te : D → TM D} (ht : ∀ b : Nat, p ≤ b → b < vs.length → te (.int (b : Int)) = tp (fr (meanR vs a b))) : compL tp (fun _ => tp true) te (rngF p vs.length) = tp ((msB vs p a).map fr) := by
  unfold msB
  rw [List.map_map]
  refine compL_map (fun i : Nat => .int ((p + i : Nat) : Int)) _ _ _ _ _ fun i hi => ?_
  have hi := List.mem_range.mp hi
  simp only [p_tb, if_true, ht (p + i) (by omega) (by omega)]
  rfl
theorem comp_msA (G : GoodV vs) {p b : Nat} (hp : p ≤ b) (hb : b < vs.length) {te : D → TM D} (ht : ∀ a : Nat, a ≤ p → te (.int (a : Int)) = tp (fr (meanR vs a b))) : compL tp (fun _ => tp true) te ((List.range (p + 1)).map fun i : Nat => .int (i : Int)) = tp ((msA vs p b).map fr) := by
  unfold msA
  rw [List.map_map]
  refine compL_map (fun i : Nat => .int (i : Int)) _ _ _ _ _ fun i hi => ?_
  have hi := List.mem_range.mp hi
  simp only [p_tb, if_true, ht i (by omega)]
  rfl
theorem msB_len {p a : Nat} : (msB vs p a).length = vs.length - p := by unfold msB; simp
theorem msA_len {p b : Nat} : (msA vs p b).length = p + 1 := by unfold msA; simp
theorem e_least_mean (G : GoodV vs) {p a : Nat} (ha : a ≤ p) (hp : p < vs.length) : t_least_mean (vsD vs) (.int (a : Int)) (.int (p : Int)) = tp (fr (minR (msB vs p a))) := by
  have h9 := G.h9
  have c := comp_msB G ha (te := fun k => t_mean_by (vsD vs) (.int (a : Int)) k) fun b h1 h2 => e_mean_by G (by omega) h2
  have l := e_least_of ((sm_msB G ha).mono (k := 2000) (by decide)) (fun e => by have := msB_len (vs := vs) (p := p) (a := a); rw [e] at this; simp at this; omega) (by rw [msB_len]; omega)
  have hr : (rngF p vs.length).length ≤ 100000 := by rw [rngF_len]; omega
  simp [t_least_mean, vs_len, d_range2 (show vs.length ≤ 1000 by omega) (show p ≤ 1000 by omega), hr, c, l]
def mins (vs : List (Int × Int)) (p : Nat) : List Rat := (List.range (p + 1)).map fun a => minR (msB vs p a)
theorem sm_mins (G : GoodV vs) {p : Nat} (hp : p < vs.length) : SmL 30 (mins vs p) := fun x hx => by
  obtain ⟨a, ha, rfl⟩ := List.mem_map.mp hx
  have := List.mem_range.mp ha
  exact (sm_msB G (by omega)).min (range_ne (by omega))
theorem sm_rise (G : GoodV vs) {p : Nat} (hp : p < vs.length) : Sm 30 (rise vs p) := (sm_mins G hp).max (range_ne (by omega))
theorem comp_mins (G : GoodV vs) {p : Nat} {te : D → TM D} (ht : ∀ a : Nat, a ≤ p → te (.int (a : Int)) = tp (fr (minR (msB vs p a)))) : compL tp (fun _ => tp true) te ((List.range (p + 1)).map fun i : Nat => .int (i : Int)) = tp ((mins vs p).map fr) := by
  unfold mins
  rw [List.map_map]
  refine compL_map (fun i : Nat => .int (i : Int)) _ _ _ _ _ fun i hi => ?_
  have hi := List.mem_range.mp hi
  simp only [p_tb, if_true, ht i (by omega)]
  rfl
def riseL (vs : List (Int × Int)) : List Rat := (List.range vs.length).map (rise vs)
theorem e_rising_by (G : GoodV vs) : t_rising_by (vsD vs) = tp (.tup ((riseL vs).map fr)) := by
  have h9 := G.h9
  have hn : vs.length ≤ 100000 := by omega
  have key : ∀ te : D → TM D, (∀ p : Nat, p < vs.length → te (.int (p : Int)) = tp (fr (rise vs p))) → compL tp (fun _ => tp true) te ((List.range vs.length).map fun i : Nat => .int (i : Int)) = tp ((riseL vs).map fr) := by
    intro te ht
    unfold riseL
    rw [List.map_map]
    refine compL_map (fun i : Nat => .int (i : Int)) _ _ _ _ _ fun i hi => ?_
    have hi := List.mem_range.mp hi
    simp only [p_tb, if_true, ht i hi]
    rfl
  simp [t_rising_by, vs_len, d_range1 (show vs.length ≤ 1000000 by omega), hn]
  rw [key]
  · simp
  · intro p hp
    have h2 : p + 1 ≤ 100000 := by omega
    have c := comp_mins G (p := p) (te := fun k => t_least_mean (vsD vs) k (.int (p : Int))) fun a ha => e_least_mean G ha hp
    have g := e_greatest_of ((sm_mins G hp).mono (k := 2000) (by decide)) (range_ne (by omega)) (by unfold mins; simp; omega)
    simp [d_range1s (show p ≤ 1000 by omega), h2, c, g]
    rfl
theorem e_rising (G : GoodV vs) : t_rising (vsD vs) = tp (.tup ((riseL vs).map fr)) := by simp [t_rising, e_check_values G, e_rising_by G]
theorem forL_push (f : Nat → D) {body : D → List D → TM (List D)} {n : Nat} (hb : ∀ i acc, i < n → acc.length ≤ i → body (.int (i : Int)) acc = tp (acc ++ [f i])) : forL body ((List.range n).map fun i : Nat => .int (i : Int)) [] = tp ((List.range n).map f) := by
  have loop : ∀ k p acc, p + k = n → acc.length = p → forL body ((List.range' p k).map fun i : Nat => .int (i : Int)) acc = tp (acc ++ (List.range' p k).map f) := by
    intro k
    induction k with
    | zero => intro p acc _ _; simp [forL]
    | succ k ih =>
      intro p acc hp ha
      rw [List.range'_succ, List.map_cons, List.map_cons]
      show tb (body (.int (p : Int)) acc) _ = _
      rw [hb p acc (by omega) (by omega), p_tb, ih (p + 1) _ (by omega) (by simp [ha])]
      simp
  have := loop n 0 [] (by omega) rfl
  rw [← List.range_eq_range'] at this
  rw [this]
  rfl
theorem noLsts_fr : ∀ l : List Rat, noLsts (l.map fr) = true
  | [] => rfl
  | x :: l => by
    show (noLst (fr x) && noLsts (l.map fr)) = true
    rw [noLsts_fr l]
    rfl
theorem e_lrising (G : GoodV vs) : t__law_rising (vsD vs) = tp (.tup ((riseL vs).map fr)) := by
  have h9 := G.h9
  have hn : vs.length ≤ 100000 := by omega
  have key := forL_push (fun p => fr (rise vs p)) (n := vs.length) (body := fun d s2 => tb (tA ((List.range ((match d with | .int i => i.toNat | _ => 0) + 1)).length ≤ 100000) (tp ())) fun _ => tp s2) 
  have h0 : noLst (.tup ((riseL vs).map fr)) = true := noLsts_fr _
  simp [t__law_rising, vs_len, d_range1 (show vs.length ≤ 1000000 by omega), hn]
  rw [forL_push (fun p => fr (rise vs p))]
  · have e : (List.range vs.length).map (fun p => fr (rise vs p)) = (riseL vs).map fr := by unfold riseL; rw [List.map_map]; rfl
    rw [e]
    simp [h0]
  · intro p acc hp ha
    have h2 : p + 1 ≤ 100000 := by omega
    have ha2 : acc.length < 100000 := by omega
    have hr : (rngF p vs.length).length ≤ 100000 := by rw [rngF_len]; omega
    have c := comp_mins G (p := p) (te := fun k => tb (tNX (compL tp (fun _ => tp true) (fun b => t__law_mean (vsD vs) k b) (rngF p vs.length))) fun a => t__law_least (.lst a)) fun a ha => by
      rw [comp_msB G ha (te := fun b => t__law_mean (vsD vs) (.int (a : Int)) b) fun b h1 h2 => e_lmean G (by omega) h2]
      rw [p_NX, p_tb]
      exact e_lleast ((sm_msB G ha).mono (k := 2000) (by decide)) (range_ne (by omega)) (by rw [msB_len]; omega)
    have g := e_lmost ((sm_mins G hp).mono (k := 2000) (by decide)) (range_ne (by omega)) (by unfold mins; simp; omega)
    simp [d_range1s (show p ≤ 1000 by omega), d_range2 (show vs.length ≤ 1000 by omega) (show p ≤ 1000 by omega), h2, hr, c, g, ha2]
    rfl
end
end FL
namespace FL
open PySem PySem.Spec L2
theorem forXL_all {σ : Type} (body : D → σ → TM (Lx σ)) (s : σ) : ∀ ds : List D, (∀ d ∈ ds, body d s = tp (.go s)) → forXL body ds s = tp (.go s)
  | [], _ => rfl
  | d :: ds, h => by
    show tb (body d s) _ = _
    rw [h d List.mem_cons_self, p_tb]
    exact forXL_all body s ds fun e he => h e (List.mem_cons_of_mem _ he)
theorem ord0 (a : D) : ordL [0] [a] = [a] := rfl
theorem ints_inj {a b : List Int} : a.map D.int = b.map D.int ↔ a = b := List.map_inj_right fun _ _ h => by injection h
theorem nice_ints (n : Nat) (l : List Int) : niceB (n + 2) (.lst (l.map .int)) = true := List.all_eq_true.mpr fun x hx => by
  obtain ⟨q, _, rfl⟩ := List.mem_map.mp hx
  rfl
theorem d_eqints (a b : List Int) : eqD (.lst (a.map .int)) (.lst (b.map .int)) = some (.bl (decide (a = b))) := by
  rw [d_eqn (nice_ints 58 a) (nice_ints 58 b)]
  congr 2
  exact decide_eq_decide.mpr (by rw [D.lst.injEq, ints_inj])
theorem d_nefrs (a b : List Rat) : neD (.tup (a.map fr)) (.tup (b.map fr)) = some (.bl (!decide (a = b))) := by
  rw [d_nen (nice_frs 57 a) (nice_frs 57 b)]
  congr 3
  exact decide_eq_decide.mpr (by rw [D.tup.injEq, frs_inj])
theorem intsD_map : ∀ ns : List Int, intsD (ns.map .int) = some ns
  | [] => rfl
  | n :: ns => by
    show (intsD (ns.map .int)).map _ = _
    rw [intsD_map ns]
    rfl
def srt (ns : List Int) : List Int := ns.mergeSort fun a b => decide (a ≤ b)
theorem d_sort (ns : List Int) : sortB [.lst (ns.map .int)] = some ((srt ns).map .int) := by
  show (intsD (ns.map .int)).map _ = _
  rw [intsD_map]
  rfl
theorem srt_iff (ns : List Int) : ns = srt ns ↔ ns.Pairwise (· ≤ ·) := by
  constructor
  · intro h
    rw [h]
    have := List.pairwise_mergeSort (le := fun a b : Int => decide (a ≤ b)) (fun a b c h1 h2 => by simp at *; omega) (fun a b => by simp; omega) ns
    exact this.imp fun h => by simpa using h
  · intro h
    exact sort_is (List.Perm.refl _) h
theorem max_map {ns : List Int} (h : ns ≠ []) : ∃ m, maxB [.lst (ns.map .int)] = some (.int m) ∧ ∀ y ∈ ns, y ≤ m := by
  cases ns with
  | nil => exact (h rfl).elim
  | cons i r =>
    have e : maxL (i :: r) = some (r.foldl max i) := rfl
    have := maxL_mem e
    refine ⟨_, ?_, this.2⟩
    show (numsOf ((i :: r).map .int)).bind _ = _
    rw [nums_map]
    rfl
section
variable {vs : List (Int × Int)} {E : XP}
theorem rise_ix {p : Nat} (hp : p < vs.length) : ixD (.tup ((riseL vs).map fr)) (.int (p : Int)) = some (fr (rise vs p)) := by
  have := d_ixm (xs := riseL vs) (f := fr) (i := p) (by unfold riseL; simp; exact hp)
  rw [this]
  congr 2
  unfold riseL
  simp
theorem rise_len : (riseL vs).length = vs.length := by unfold riseL; simp
theorem pair_iff (vs : List (Int × Int)) : (vs.map fun v => v.1).Pairwise (· ≤ ·) ↔ ∀ i, i + 1 < vs.length → xs vs i ≤ xs vs (i + 1) := by
  constructor
  · intro h i hi
    have := (List.pairwise_iff_getElem.mp h) i (i + 1) (by simp; omega) (by simp; omega) (by omega)
    unfold xs
    simp only [List.getElem_map] at this
    simp [List.getD, List.getElem?_eq_getElem hi, List.getElem?_eq_getElem (show i < vs.length by omega)]
    exact this
  · intro h
    refine List.pairwise_iff_getElem.mpr fun i j hi hj hij => ?_
    simp only [List.length_map] at hi hj
    have := xs_up h (show i ≤ j by omega) hj
    unfold xs at this
    simp [List.getD, List.getElem?_eq_getElem hi, List.getElem?_eq_getElem hj] at this
    simp only [List.getElem_map]
    exact this
theorem self_iff (G : GoodV vs) : riseL vs = (vs.map fun v => (v.1 : Rat)) ↔ (vs.map fun v => v.1) = srt (vs.map fun v => v.1) := by
  rw [srt_iff, pair_iff, ← rise_iff G]
  constructor
  · intro h p hp
    have := congrArg (fun l : List Rat => l[p]?) h
    simp only [riseL, List.getElem?_map, List.getElem?_range hp, List.getElem?_eq_getElem hp, Option.map_some, Option.some.injEq] at this
    rw [this]
    unfold xs
    simp [List.getD, List.getElem?_eq_getElem hp]
  · intro h
    refine List.ext_getElem (by rw [rise_len, List.length_map]) fun i h1 h2 => ?_
    rw [rise_len] at h1
    have := h i h1
    unfold xs at this
    simp [List.getD, List.getElem?_eq_getElem h1] at this
    simp [riseL, this]
/-! more by as many, times as many -/
def affV (m c : Int) (vs : List (Int × Int)) : List (Int × Int) := vs.map fun v => (m * v.1 + c, v.2)
def mulV (m : Int) (vs : List (Int × Int)) : List (Int × Int) := vs.map fun v => (v.1, v.2 * m)
theorem maxR_map (f : Rat → Rat) (hf : ∀ a b, a ≤ b → f a ≤ f b) {l : List Rat} (h : l ≠ []) : maxR (l.map f) = f (maxR l) := by
  have h' : l.map f ≠ [] := by simpa using h
  refine Rat.le_antisymm (maxR_le h' fun x hx => ?_) (le_maxR (List.mem_map.mpr ⟨_, maxR_mem h, rfl⟩))
  obtain ⟨y, hy, rfl⟩ := List.mem_map.mp hx
  exact hf _ _ (le_maxR hy)
theorem minR_map (f : Rat → Rat) (hf : ∀ a b, a ≤ b → f a ≤ f b) {l : List Rat} (h : l ≠ []) : minR (l.map f) = f (minR l) := by
  have h' : l.map f ≠ [] := by simpa using h
  refine Rat.le_antisymm (minR_le (List.mem_map.mpr ⟨_, minR_mem h, rfl⟩)) (le_minR h' fun x hx => ?_)
  obtain ⟨y, hy, rfl⟩ := List.mem_map.mp hx
  exact hf _ _ (minR_le hy)
theorem rise_map {ws : List (Int × Int)} (f : Rat → Rat) (hf : ∀ a b, a ≤ b → f a ≤ f b) (hl : ws.length = vs.length) (hm : ∀ a b, a ≤ b → b < vs.length → meanR ws a b = f (meanR vs a b)) {p : Nat} (hp : p < vs.length) : rise ws p = f (rise vs p) := by
  unfold rise
  rw [← maxR_map f hf (range_ne (by omega)), List.map_map]
  congr 1
  refine List.map_congr_left fun a ha => ?_
  have ha := List.mem_range.mp ha
  show minR (msB ws p a) = f (minR (msB vs p a))
  unfold msB
  rw [← minR_map f hf (range_ne (by omega)), hl, List.map_map]
  congr 1
  refine List.map_congr_left fun i hi => ?_
  have hi := List.mem_range.mp hi
  exact hm a (p + i) (by omega) (by omega)
theorem riseL_map {ws : List (Int × Int)} (f : Rat → Rat) (hf : ∀ a b, a ≤ b → f a ≤ f b) (hl : ws.length = vs.length) (hm : ∀ a b, a ≤ b → b < vs.length → meanR ws a b = f (meanR vs a b)) : riseL ws = (riseL vs).map f := by
  unfold riseL
  rw [hl, List.map_map]
  exact List.map_congr_left fun p hp => rise_map f hf hl hm (List.mem_range.mp hp)
theorem seg_map (g : Int × Int → Int × Int) (a b : Nat) : seg (vs.map g) a b = (seg vs a b).map g := by unfold seg; rw [← List.map_drop, ← List.map_take]
theorem sums_aff (m c : Int) (l : List (Int × Int)) : sxw (affV m c l) = m * sxw l + c * sw l ∧ sw (affV m c l) = sw l := by
  induction l with
  | nil => simp [affV, sxw, sw]
  | cons k l ih =>
    have e1 : ∀ k l, sxw (k :: l) = k.1 * k.2 + sxw l := fun k l => by unfold sxw; rw [List.map_cons, List.sum_cons]
    have e2 : ∀ k l, sw (k :: l) = k.2 + sw l := fun k l => by unfold sw; rw [List.map_cons, List.sum_cons]
    have e3 : affV m c (k :: l) = (m * k.1 + c, k.2) :: affV m c l := rfl
    rw [e3, e1, e2, e1, e2, ih.1, ih.2]
    exact ⟨by simp only; grind, rfl⟩
theorem sums_mul (m : Int) (l : List (Int × Int)) : sxw (mulV m l) = m * sxw l ∧ sw (mulV m l) = m * sw l := by
  induction l with
  | nil => simp [mulV, sxw, sw]
  | cons k l ih =>
    have e1 : ∀ k l, sxw (k :: l) = k.1 * k.2 + sxw l := fun k l => by unfold sxw; rw [List.map_cons, List.sum_cons]
    have e2 : ∀ k l, sw (k :: l) = k.2 + sw l := fun k l => by unfold sw; rw [List.map_cons, List.sum_cons]
    have e3 : mulV m (k :: l) = (k.1, k.2 * m) :: mulV m l := rfl
    rw [e3, e1, e2, e1, e2, ih.1, ih.2]
    exact ⟨by simp only; grind, by simp only; grind⟩
theorem mean_aff (G : GoodV vs) {m c : Int} {a b : Nat} (hab : a ≤ b) (h : b < vs.length) : meanR (affV m c vs) a b = (m : Rat) * meanR vs a b + c := by
  have hp := G.sw hab h
  have p := pos_cast hp
  have e := divInt_eq (sxw (seg vs a b)) hp
  unfold meanR
  rw [show seg (affV m c vs) a b = affV m c (seg vs a b) from seg_map _ a b, (sums_aff m c _).1, (sums_aff m c _).2]
  have e2 := divInt_eq (m * sxw (seg vs a b) + c * sw (seg vs a b)) hp
  rw [Rat.intCast_add, Rat.intCast_mul, Rat.intCast_mul] at e2
  have : (sw (seg vs a b) : Rat) * (Rat.divInt (m * sxw (seg vs a b) + c * sw (seg vs a b)) (sw (seg vs a b)) - ((m : Rat) * Rat.divInt (sxw (seg vs a b)) (sw (seg vs a b)) + c)) = 0 := by grind
  rcases Rat.mul_eq_zero.mp this with z | z
  · rw [z] at p; exact (Rat.lt_irrefl p).elim
  · grind
theorem mean_mul (G : GoodV vs) {m : Int} (hm : 0 < m) {a b : Nat} : meanR (mulV m vs) a b = meanR vs a b := by
  unfold meanR
  rw [show seg (mulV m vs) a b = mulV m (seg vs a b) from seg_map _ a b, (sums_mul m _).1, (sums_mul m _).2]
  exact divInt_scale (by omega)
end
end FL
namespace FL
open PySem PySem.Spec L2
section
variable {vs : List (Int × Int)} {E : XP}
theorem place_ok (G : GoodV vs) {body : D → Unit → TM (Lx Unit)} (hb : ∀ p : Nat, p < vs.length → body (.int (p : Int)) () = tp (.go ())) : forXL body ((List.range vs.length).map fun i : Nat => .int (i : Int)) () = tp (.go ()) := forXL_all _ _ _ fun d hd => by
  obtain ⟨p, hp, rfl⟩ := List.mem_map.mp hd
  exact hb p (List.mem_range.mp hp)
theorem e_other (G : GoodV vs) {p : Nat} (hp : p < vs.length) {te : D → TM D} (ht : ∀ b : Nat, p ≤ b → b < vs.length → te (.int (b : Int)) = tp (fr (maxR (msA vs p b)))) :
    compL tp (fun _ => tp true) te (rngF p vs.length) = tp (((List.range (vs.length - p)).map fun i => maxR (msA vs p (p + i))).map fr) := by
  rw [List.map_map]
  refine compL_map (fun i : Nat => .int ((p + i : Nat) : Int)) _ _ _ _ _ fun i hi => ?_
  have hi := List.mem_range.mp hi
  simp only [p_tb, if_true, ht (p + i) (by omega) (by omega)]
  rfl
theorem comp_own : compL (fun d => tb (tO (unTup 2 d)) (tgCons tp fun (a2 : D) => (tgCons tp fun (a3 : D) => tgNil))) (fun v1 => tp true) (fun v1 => tp v1.1) (vs.map kD) = tp ((vs.map fun v => v.1).map .int) := by
  rw [List.map_map]
  refine compL_map kD _ _ _ _ vs fun v hv => ?_
  simp [kD]
theorem comp_frs {te : D → TM D} (ht : ∀ x : Int, te (.int x) = tp (fr (x : Rat))) (ns : List Int) : compL tp (fun _ => tp true) te (ns.map .int) = tp ((ns.map fun x : Int => (x : Rat)).map fr) := by
  rw [List.map_map]
  refine compL_map .int _ _ _ _ ns fun v hv => ?_
  simp only [p_tb, if_true, ht]
  rfl
theorem comp_abs (ns : List Int) : compL tp (fun _ => tp true) (fun v => tO (absB [v])) (ns.map .int) = tp ((ns.map fun x => (x.natAbs : Int)).map .int) := by
  rw [List.map_map]
  refine compL_map .int _ _ _ _ ns fun v hv => ?_
  simp
theorem comp_pair {g : Int × Int → Int × Int} {te : D × (D × Unit) → TM D} (ht : ∀ v ∈ vs, te (.int v.1, .int v.2, ()) = tp (kD (g v))) : compL (fun d => tb (tO (unTup 2 d)) (tgCons tp fun (a2 : D) => (tgCons tp fun (a3 : D) => tgNil))) (fun v1 => tp true) te (vs.map kD) = tp ((vs.map g).map kD) := by
  rw [List.map_map]
  refine compL_map kD _ _ _ _ vs fun v hv => ?_
  have := ht v hv
  simp [kD] at this ⊢
  simp [this]
theorem e_lby {a b : Rat} (ha : Sm 240 a) (hb : Sm 240 b) : t__law_by (fr a) (fr b) = tp (fr (a * b)) := by
  have d := dens ha hb
  have := e_f (n := a.num * b.num) d.1 (Nat.lt_of_lt_of_le d.2 (pow_le _ _ (by decide)))
  rw [mul_fr] at this
  simp [t__law_by, mul_sm ha.1 hb.1, mul_sm (den_sm ha) (den_sm hb), this]
theorem e_lplus {a b : Rat} (ha : Sm 240 a) (hb : Sm 240 b) : t__law_plus (fr a) (fr b) = tp (fr (a + b)) := by
  have d := dens ha hb
  have := e_f (n := a.num * b.den + b.num * a.den) d.1 (Nat.lt_of_lt_of_le d.2 (pow_le _ _ (by decide)))
  rw [add_fr] at this
  simp [t__law_plus, mul_sm ha.1 (den_sm hb), mul_sm hb.1 (den_sm ha), mul_sm (den_sm ha) (den_sm hb), this]
theorem comp_aff (m c : Int) (hm : m.natAbs < 2 ^ 20) (hc : c.natAbs < 2 ^ 20) {te : D → TM D} {l : List Rat} (hl : SmL 30 l) (ht : ∀ x : Rat, te (fr x) = tb (t__law_by (fr x) (fr (m : Rat))) fun y => t__law_plus y (fr (c : Rat))) : compL tp (fun _ => tp true) te (l.map fr) = tp ((l.map fun x => (m : Rat) * x + c).map fr) := by
  rw [List.map_map]
  refine compL_map fr _ _ _ _ l fun x hx => ?_
  have h1 : Sm 20 (m : Rat) := smx hm
  have h2 : Sm 20 (c : Rat) := smx hc
  have h3 := hl x hx
  simp only [p_tb, if_true, ht, e_lby (h3.mono (j := 240) (by decide)) (h1.mono (j := 240) (by decide)), e_lplus ((sm_mul h3 h1).mono (j := 240) (by decide)) (h2.mono (j := 240) (by decide))]
  rw [Rat.mul_comm]
  rfl
where smx {i : Int} (h : i.natAbs < 2 ^ 20) : Sm 20 (i : Rat) := sm_int (k := 19) h
theorem SmL.rise (G : GoodV vs) : SmL 30 (riseL vs) := fun x hx => by
  obtain ⟨p, hp, rfl⟩ := List.mem_map.mp hx
  exact sm_rise G (List.mem_range.mp hp)
theorem n_right (G : GoodV vs) {P : D → Prop} (hP : P (.bl true)) : t__law_right (vsD vs) P E := by
  have h9 := G.h9
  have h1 := G.h1
  have hn : vs.length ≤ 100000 := by omega
  have hl9 : (riseL vs).length ≤ 1000 := by rw [rise_len]; omega
  have hd := e_alike 10 (.tup [.tup ((riseL vs).map fr), .tup ((riseL vs).map fr)]) (by
    show (decide (2 ≤ 1000) && [D.tup ((riseL vs).map fr), .tup ((riseL vs).map fr)].all (numB 9)) = true
    simp [num_frs 6 _ hl9])
  have hloop : ∀ body : D → Unit → TM (Lx Unit), (∀ p : Nat, p < vs.length → body (.int (p : Int)) () = tp (.go ())) → forXL body ((List.range vs.length).map fun i : Nat => .int (i : Int)) () = tp (.go ()) := fun _ => place_ok G
  have hself := self_iff G
  have hs : decide (riseL vs = (vs.map fun v => v.1).map fun x : Int => (x : Rat)) = decide ((vs.map fun v => v.1) = srt (vs.map fun v => v.1)) := by
    rw [List.map_map]
    exact decide_eq_decide.mpr hself
  unfold t__law_right
  simp only [x_P2, x_cons, p_tbb, p_tb, p_u1, e_lrising G, x_Bf, vs_len, p_tO, x_m2, e_rising G, x_tup, x_fz, x_if, x_ttNot, x_tru, x_forX, most_eq]
  simp only [List.length_cons, List.length_nil, ord0, p_u1, p_u2, e_rising G, p_tb, p_tbb, p_tA, p_tbA, Nat.zero_add, Nat.reduceLeDiff, hd, d_trub, p_tO, Bool.not_true, Bool.false_eq_true, if_false, d_range1 (show vs.length ≤ 1000000 by omega), List.length_map, List.length_range, hn]
  rw [hloop _ (fun p hp => ?_)]
  · have hne : (vs.map fun v => v.1) ≠ [] := by intro e; have := congrArg List.length e; simp at this; rw [this] at h1; simp at h1
    have hne2 : ((vs.map fun v => v.1).map fun x => (x.natAbs : Int)) ≠ [] := by simpa using hne
    have hne3 : (vs.map fun v => v.2) ≠ [] := by intro e; have := congrArg List.length e; simp at this; rw [this] at h1; simp at h1
    obtain ⟨m1, e1, q1⟩ := max_map hne2
    obtain ⟨m2, e2, q2⟩ := max_map hne3
    have hrow : rowD (vsD vs) = some (vs.map kD) := rfl
    have c1 := comp_frs (te := fun v => tp (.tup [v, .int 1])) (fun x => rfl) (vs.map fun v => v.1)
    simp only [p_tb, p_fin, x_comp, x_row, p_tbb, hrow, p_tO, most_eq, List.length_map, hn, p_tA, p_tbA, p_NX, x_fz, comp_own, x_MT, x_2, x_Bf, x_cons, d_rowl, d_tupB, x_tup, List.length_cons, List.length_nil, Nat.zero_add, Nat.reduceAdd, Nat.reduceLeDiff, c1, d_eqfrs, d_sort, d_eqints, hs, d_neb, d_unBl, beq_self_eq_true, Bool.not_true, Bool.false_eq_true, if_false, p_u1, k_take, d_sub, d_add, p_unTup2, p_tgCons, p_tgNil, comp_abs, e1, d_lt, d_gt]
    refine ⟨by omega, by omega, fun t1 a1 a2 => ⟨by omega, by omega, fun t2 b1 b2 => ?_⟩⟩
    generalize hby : t1 - 49 = by'
    generalize hmu : 1 + t2 = mu
    have hmw : ∀ v ∈ vs, v.2 ≤ m2 := fun v hv => q2 _ (List.mem_map.mpr ⟨v, hv, rfl⟩)
    have last : ∀ Q : D → Prop, Q (.bl true) → (tb (tb (tNX (compL (fun d => tb (tO (unTup 2 d)) (tgCons tp fun a4 => tgCons tp fun a5 => tgNil)) (fun v3 => tp true) (fun v15 => tp v15.snd.fst) (vs.map kD))) fun a => tb (tO (maxB [.lst a])) fun d => tO (gtD d (.int 199))) fun d => tb (tO (truB d)) fun k => if k then tp d else
        tb (tNX (compL (fun d => tb (tO (unTup 2 d)) (tgCons tp fun a4 => tgCons tp fun a5 => tgNil)) (fun v3 => tp true) (fun v19 => tb (tO (mulD v19.snd.fst (.int mu))) fun a => tp (.tup [v19.fst, a])) (vs.map kD))) fun a => tb (t_rising (.tup a)) fun d => tO (eqD d (.tup ((riseL vs).map fr)))) Q E := by
      intro Q hQ
      simp only [e_sw, p_NX, p_tb, p_tbb, e2, p_tO, d_gt, d_trub, decide_eq_true_eq]
      by_cases c : 199 < m2
      · simp only [c, if_true, decide_true]
        exact hQ
      · have g := comp_pair (vs := vs) (g := fun v => (v.1, v.2 * mu)) (te := fun v19 => tb (tO (mulD v19.2.1 (.int mu))) fun a => tp (.tup [v19.1, a])) fun v hv => by
          obtain ⟨k1, k2, k3, k4⟩ := G.ok v hv
          simp only [mul_i (x := v.2) (y := mu) (by omega) (by omega), p_tO, p_tb]
          rfl
        have G2 : GoodV (mulV mu vs) := ⟨by unfold mulV; simpa using h1, by unfold mulV; simpa using h9, fun v hv => by
          obtain ⟨u, hu, rfl⟩ := List.mem_map.mp hv
          obtain ⟨k1, k2, k3, k4⟩ := G.ok u hu
          have := hmw u hu
          have p1 : 1 * 1 ≤ u.2 * mu := Int.mul_le_mul k3 (by omega) (by omega) (by omega)
          have p2 : u.2 * mu ≤ 199 * 5 := Int.mul_le_mul (by omega) (by omega) (by omega) (by omega)
          exact ⟨k1, k2, by simpa using p1, by simp only; omega⟩⟩
        have hr : t_rising (.tup ((vs.map fun v => (v.1, v.2 * mu)).map kD)) = tp (.tup ((riseL (mulV mu vs)).map fr)) := e_rising G2
        have he : riseL (mulV mu vs) = riseL vs := by
          have := riseL_map (vs := vs) (ws := mulV mu vs) (fun x => x) (fun _ _ h => h) (by unfold mulV; simp) fun a b _ _ => mean_mul G (by omega)
          rw [this]; simp
        simp only [c, if_false, decide_false, g, p_NX, p_tb, hr, he, d_eqfrs, p_tO, decide_true]
        exact hQ
    by_cases c : m1 < 1000
    · simp only [c, decide_true, if_true]
      have hx : ∀ v ∈ vs, v.1.natAbs ≤ 999 := fun v hv => by
        have := q1 _ (List.mem_map.mpr ⟨v.1, List.mem_map.mpr ⟨v, hv, rfl⟩, rfl⟩)
        omega
      have g := comp_pair (vs := vs) (g := fun v => (mu * v.1 + by', v.2)) (te := fun v11 => tb (tO (mulD (.int mu) v11.1)) fun a => tb (tO (addD a (.int by'))) fun a => tp (.tup [a, v11.2.1])) fun v hv => by
        have := hx v hv
        simp only [mul_i (x := mu) (y := v.1) (by omega) (by omega), p_tO, p_tb, d_add]
        rfl
      have G2 : GoodV (affV mu by' vs) := ⟨by unfold affV; simpa using h1, by unfold affV; simpa using h9, fun v hv => by
        obtain ⟨u, hu, rfl⟩ := List.mem_map.mp hv
        obtain ⟨k1, k2, k3, k4⟩ := G.ok u hu
        have := hx u hu
        have p3 : (mu * u.1).natAbs ≤ 5 * 999 := by rw [Int.natAbs_mul]; exact Nat.mul_le_mul (by omega) this
        exact ⟨by simp only; omega, by simp only; omega, k3, k4⟩⟩
      have hr : t_rising (.tup ((vs.map fun v => (mu * v.1 + by', v.2)).map kD)) = tp (.tup ((riseL (affV mu by' vs)).map fr)) := e_rising G2
      have he : riseL (affV mu by' vs) = (riseL vs).map fun x => (mu : Rat) * x + by' := riseL_map (vs := vs) (ws := affV mu by' vs) (fun x => (mu : Rat) * x + by') (fun a b h => by
        have := Rat.mul_le_mul_of_nonneg_left h (Rat.le_of_lt (pos_cast (show 0 < mu by omega)))
        grind) (by unfold affV; simp) fun a b h1 h2 => mean_aff G h1 h2
      have ca := comp_aff mu by' (by omega) (by omega) (te := fun x => tb (t__law_by x (.tup [.int mu, .int 1])) fun a => t__law_plus a (.tup [.int by', .int 1])) (SmL.rise G) fun x => rfl
      simp only [g, p_NX, p_tb, p_tbb, hr, d_row, p_tO, List.length_map, show (riseL vs).length ≤ 100000 by omega, p_tA, p_tbA, ca, he, d_nefrs, decide_true, Bool.not_true, d_unBl, Bool.false_eq_true, if_false, x_or]
      exact last P hP
    · simp only [c, decide_false, Bool.false_eq_true, if_false, x_or]
      exact last P hP
  · have hp2 : p ≤ 1000 := by omega
    have c1 : ∀ b : Nat, p ≤ b → b < vs.length → (tb (compT (tb (t2 addD (tp (.int (p : Int))) (tp (.int 1))) fun a => tO (range1 [a])) tp (fun x_b => tp true) fun x_a => u3 t__law_mean [vsD vs, x_a, .int (b : Int)]) fun a => t__law_most (.lst a)) = tp (fr (maxR (msA vs p b))) := fun b h1 h2 => by
      have h3 : p + 1 ≤ 100000 := by omega
      have c := comp_msA G h1 h2 (te := fun a => t__law_mean (vsD vs) a (.int (b : Int))) fun a ha => e_lmean G (by omega) h2
      have g := e_lmost ((sm_msA G h1 h2).mono (k := 2000) (by decide)) (range_ne (by omega)) (by rw [msA_len]; omega)
      simp [d_range1s hp2, h3, c, g]
    have hr : (rngF p vs.length).length ≤ 100000 := by rw [rngF_len]; omega
    have hm : SmL 30 ((List.range (vs.length - p)).map fun i => maxR (msA vs p (p + i))) := fun x hx => by
      obtain ⟨i, hi, rfl⟩ := List.mem_map.mp hx
      have hi := List.mem_range.mp hi
      exact (sm_msA G (by omega) (by omega)).max (range_ne (by omega))
    have c2 := e_other G hp (te := fun x_b => tb (compT (tb (t2 addD (tp (.int (p : Int))) (tp (.int 1))) fun a => tO (range1 [a])) tp (fun x_b => tp true) fun x_a => u3 t__law_mean [vsD vs, x_a, x_b]) fun a => t__law_most (.lst a)) c1
    have g := e_lleast (hm.mono (k := 2000) (by decide)) (range_ne (by omega)) (by simp; omega)
    have mm : minR ((List.range (vs.length - p)).map fun i => maxR (msA vs p (p + i))) = rise vs p := min_max G hp
    rw [mm] at g
    simp only [x_comp, p_tO, p_tb, d_range2 (show vs.length ≤ 1000 by omega) hp2, most_eq, hr, p_tA, p_tbA]
    simp only [x_comp, p_tO, p_tb, most_eq] at c2
    rw [c2]
    simp only [p_NX, p_tb, g, x_ttOr, x_MT, x_2, rise_ix hp, p_tO, d_nefr, decide_true, Bool.not_true, d_unBl, Bool.false_eq_true, if_false, x_ttAnd, d_gt]
    match p, hp with
    | 0, hp => simp
    | q + 1, hp =>
      have e : subD (.int ((q + 1 : Nat) : Int)) (.int 1) = some (.int (q : Int)) := by
        show some (D.int (((q + 1 : Nat) : Int) - 1)) = _
        congr 2
        omega
      have hlt : (0 : Int) < ((q + 1 : Nat) : Int) := by omega
      have hb := e_lbelow ((sm_rise G hp).mono (j := 2000) (by decide)) ((sm_rise G (p := q) (by omega)).mono (j := 2000) (by decide))
      have hn : ¬ rise vs (q + 1) < rise vs q := by have := rise_mono (vs := vs) (p := q) hp; grind
      simp only [hlt, decide_true, if_true, e, p_tO, p_tb, rise_ix (show q < vs.length by omega), hb, hn, decide_false, d_trub, Bool.false_eq_true, if_false]
end
end FL
namespace FL
open PySem PySem.Spec L2
theorem trues_of {l : List D} (h : ∀ y ∈ l, y = .bl true) : allB [.lst l] = some (.bl true) := by
  have e : l = l.map fun _ => D.bl true := by
    refine List.ext_getElem (by simp) fun i h1 h2 => ?_
    rw [List.getElem_map]
    exact h _ (List.getElem_mem h1)
  rw [e]
  exact all_trues l
theorem turns (a b n : Nat) : ∃ m : Nat, m ≤ a ∧ (tb (tO (max2B [.int (b : Int), .int (n : Int)])) fun x => tO (min2B [.int (a : Int), x])) = tp (.int (m : Int)) := by
  refine ⟨min a (max b n), by omega, ?_⟩
  rw [d_max2, p_tO, p_tb, d_min2, p_tO]
  congr 2
  split <;> split <;> omega
section
variable {E : XP}
theorem n_values {P : D → Prop} (hP : ∀ vs, GoodV vs → P (vsD vs)) : t__law_values (.int 9) P E := by
  simp only [t__law_values, x_tup, x_cons, x_2, p_tb, p_tbb, p_u1, d_add, d_sub, p_tO, k_take, most_eq, x_Bf, x_comp, x_fz]
  refine ⟨by omega, by omega, fun n n0 n1 => ⟨by omega, by omega, fun k k0 k1 => ?_⟩⟩
  simp only [p_tbA, List.length_cons, List.length_nil, Nat.zero_add, Nat.reduceAdd, Nat.reduceLeDiff, p_tA, p_tb, p_unTup2, p_tO, p_tgCons, p_tgNil, k_take, p_tbb]
  refine ⟨by omega, by omega, fun t t0 t1 => ?_⟩
  obtain ⟨top, e1, q1⟩ := three (a := 3) (b := 9) (c := 9999) (Q := fun v => 3 ≤ v ∧ v ≤ 9999) t0 t1 (by omega) (by omega) (by omega)
  simp only [e1, p_tO, p_tb, p_tbb, k_take]
  refine ⟨by omega, by omega, fun s s0 s1 => ?_⟩
  have hr : range1 [.int (1 + n)] = some ((List.range (1 + n).toNat).map fun i : Nat => .int (i : Int)) := by
    have := d_range1 (n := (1 + n).toNat) (by omega)
    rwa [Int.toNat_of_nonneg (by omega)] at this
  have hl : (1 + n).toNat ≤ 100000 := by omega
  simp only [p_tbA, p_tA, p_tb, p_unTup2, p_tO, p_tgCons, p_tgNil, d_add, hr, List.length_map, List.length_range, hl, mul_i (x := 2) (y := top) (by omega) (by omega)]
  rw [h_tbNX]
  refine compL_any (R := fun y => ∃ v : Int × Int, y = kD v ∧ (-9999 ≤ v.1 ∧ v.1 ≤ 9999 ∧ 1 ≤ v.2 ∧ v.2 ≤ 999)) _ _ _ _ (fun d hd P' hP' => ?_) (fun l hl hr => ?_)
  · simp only [p_tb, p_tbb, k_take, p_u1]
    refine ⟨by omega, by omega, fun x x0 x1 => ?_⟩
    simp only [d_sub, d_add, p_tO, p_tb, p_tbb, k_take]
    refine ⟨by omega, by omega, fun w w0 w1 => ⟨by omega, by omega, fun w' w0' w1' => ?_⟩⟩
    obtain ⟨ww, e2, q2⟩ := three (a := 1 + s) (b := 1 + w) (c := 1 + w') (Q := fun v => 1 ≤ v ∧ v ≤ 999) k0 k1 (by omega) (by omega) (by omega)
    rw [e2, p_tO]
    exact hP' _ ⟨(x - top, ww), rfl, by simp only; omega, by simp only; omega, q2.1, q2.2⟩
  · obtain ⟨vs, rfl, h3, h4⟩ := unmap hr
    simp only [p_tb, d_tupB, p_tO]
    exact hP vs ⟨by rw [h4, hl]; simp; omega, by rw [h4, hl]; simp; omega, h3⟩
theorem good3 (k : Nat) (h : k < 27) : GoodV [((k : Int) % 3, 1), ((k : Int) / 3 % 3, 2), ((k : Int) / 9, 1)] := by
  refine ⟨by simp, by simp, fun v hv => ?_⟩
  rcases List.mem_cons.mp hv with rfl | hv
  · simp only; omega
  · rcases List.mem_cons.mp hv with rfl | hv
    · simp only; omega
    · rw [List.mem_singleton.mp hv]; simp only; omega
theorem end46a : t_rising (.tup [.tup [.int 3, .int 1], .tup [.int 1, .int 1], .tup [.int 4, .int 2]]) = tp (.tup ([2, 2, 4].map fr)) := by
  rw [show [(2 : Rat), 2, 4] = riseL [(3, 1), (1, 1), (4, 2)] by decide +kernel]
  exact e_rising (vs := [(3, 1), (1, 1), (4, 2)]) ⟨by decide, by decide, by decide⟩
theorem end46b : t_rising (.tup [.tup [.int 5, .int 1], .tup [.int 0, .int 4]]) = tp (.tup ([1, 1].map fr)) := by
  rw [show [(1 : Rat), 1] = riseL [(5, 1), (0, 4)] by decide +kernel]
  exact e_rising (vs := [(5, 1), (0, 4)]) ⟨by decide, by decide, by decide⟩
end
theorem plain_t : ∀ ns : List Int, ns.length ≤ 63 → (∀ z ∈ ns, Builtin.Int.intBits z ≤ 1048576) → t_law (.scr (ns.map .int)) (fun d => d = .bl true) (fun _ _ => False) := by
  intro ns hl hb
  obtain ⟨m, hm, em⟩ := turns 20 5 ns.length
  simp only [t_law, x_forX, x_Bf, x_cons, p_tb, p_tbb, d_lens, List.length_map, p_tO]
  have em' : ∀ {β : Type} (f : D → TM β), (tb (tO (max2B [.int 5, .int (ns.length : Int)])) fun x => tb (tO (min2B [.int 20, x])) f) = f (.int (m : Int)) := fun f => by
    have := congrArg (fun t => tb t f) em
    exact this
  rw [em', d_range1 (show m ≤ 1000000 by omega)]
  simp only [p_tO, p_tb, p_tbA, List.length_map, List.length_range, most_eq, show m ≤ 100000 by omega, p_tA]
  rw [h_tb]
  refine forXL_inv (fun ds _ => ∀ d ∈ ds, ∃ i : Nat, i ≤ 20 ∧ d = .int (i : Int)) _ _ _ _ (fun d ds s hi P' hp => ?_) (fun d hd => ?_) (fun _ _ => ?_)
  · obtain ⟨i, i6, rfl⟩ := hi d (List.mem_cons_self ..)
    have hp := hp () fun x hx => hi x (List.mem_cons_of_mem _ hx)
    rw [h_tb]
    refine ⟨ns, i, rfl, hl, hb, by omega, by omega, ?_⟩
    simp only [x_if, x_ttNot, x_tru, x_Bf, x_fz, x_comp, x_cons, p_tb, p_tbb, d_range1 (show 2 ≤ 1000000 by omega), p_tO, List.length_map, List.length_range, most_eq, show (range1 [.int 2]) = some ((List.range 2).map fun i : Nat => .int (i : Int)) from d_range1 (n := 2) (by omega), p_tbA, Nat.reduceLeDiff, p_tA]
    rw [h_tbNX]
    refine compL_any (R := fun y => y = .bl true) _ _ _ _ (fun d hd P' hP' => ?_) (fun l hl hr => ?_)
    · simp only [p_tb, p_u1]
      rw [h_tb]
      refine n_values fun vs G => ?_
      exact n_right G (hP' _ rfl)
    · simp only [p_tb, trues_of hr, p_tO, d_trub, Bool.not_true, Bool.false_eq_true, if_false]
      exact hp
  · obtain ⟨i, hi, rfl⟩ := List.mem_map.mp hd
    have := List.mem_range.mp hi
    exact ⟨i, by omega, rfl⟩
  · simp only [p_fin, show (range1 [.int 27]) = some ((List.range 27).map fun i : Nat => .int (i : Int)) from d_range1 (n := 27) (by omega), p_tO, p_tb, p_tbA, List.length_map, List.length_range, Nat.reduceLeDiff, p_tA]
    rw [h_tb]
    refine forXL_inv (fun ds _ => ∀ d ∈ ds, ∃ i : Nat, i < 27 ∧ d = .int (i : Int)) _ _ _ _ (fun d ds s hi P' hp => ?_) (fun d hd => ?_) (fun _ _ => ?_)
    · obtain ⟨k, k27, rfl⟩ := hi d (List.mem_cons_self ..)
      have hp := hp () fun x hx => hi x (List.mem_cons_of_mem _ hx)
      simp only [p_tb, x_if, x_ttNot, x_tru, x_tup, x_cons, p_tbb]
      rw [h_tb]
      refine ⟨ns, 0, rfl, hl, hb, by omega, by omega, ?_⟩
      have m3 : ∀ i : Int, modD (.int i) (.int 3) = some (.int (i % 3)) := fun i => mod_ok (by omega)
      have d3 : ∀ i : Int, divD (.int i) (.int 3) = some (.int (i / 3)) := fun i => div_ok (by omega) (small _ (by decide))
      have d9 : ∀ i : Int, divD (.int i) (.int 9) = some (.int (i / 9)) := fun i => div_ok (by omega) (small _ (by decide))
      simp only [x_2, x_Bf, x_cons, p_tb, p_tbb, d_intB, p_tO, m3, d3, d9, List.length_cons, List.length_nil, Nat.zero_add, Nat.reduceAdd, Nat.reduceLeDiff, most_eq, p_tA, p_tbA, p_u1]
      rw [h_tb]
      refine n_right (good3 k k27) ?_
      simpa [h_tp] using hp
    · obtain ⟨i, hi, rfl⟩ := List.mem_map.mp hd
      exact ⟨i, List.mem_range.mp hi, rfl⟩
    · have a1 : t_rising (.tup [fr ((3 : Int) : Rat), fr ((1 : Int) : Rat), .tup [.int 4, .int 2]]) = tp (.tup ([2, 2, 4].map fr)) := end46a
      have a2 : t_rising (.tup [fr ((5 : Int) : Rat), .tup [.int 0, .int 4]]) = tp (.tup ([1, 1].map fr)) := end46b
      simp only [p_fin, x_and, x_2, x_tup, x_cons, p_tb, p_tbb, List.length_cons, List.length_nil, Nat.zero_add, Nat.reduceAdd, Nat.reduceLeDiff, most_eq, p_tA, p_tbA, p_u1, a1, a2, fr_int',
        show D.tup [fr ((2 : Int) : Rat), fr ((2 : Int) : Rat), fr ((4 : Int) : Rat)] = .tup ([2, 2, 4].map fr) from rfl, show D.tup [fr ((1 : Int) : Rat), fr ((1 : Int) : Rat)] = .tup ([1, 1].map fr) from rfl, d_eqfrs, p_tO, decide_true, d_trub, if_true, h_tp]
end FL
namespace FL
open PySem PySem.Spec L2
theorem sim_is_whole : SimF0 F_is_whole (u1 t_is_whole) := by
  unfold F_is_whole B_is_whole
  exact sf1 (fun x_value => (fun js w => [.val x_value])) (fun _ _ _ => rfl) (fun x_value => by
    unfold t_is_whole
    exact (sb_rr (sb_ret (wk_any _) (sm_andz (sm_B (sm_consz (sm_var fun _ _ => rfl) (sm_consz sm_C sm_nil))) (sm_not (sm_B (sm_consz (sm_var fun _ _ => rfl) (sm_consz sm_C sm_nil))))))))
theorem sim_is_between : SimF0 F_is_between (u3 t_is_between) := by
  unfold F_is_between B_is_between
  exact sf3 (fun x_value x_low x_high => (fun js w => [.val x_value, .val x_low, .val x_high])) (fun _ _ _ _ _ => rfl) (fun x_value x_low x_high => by
    unfold t_is_between
    exact (sb_rr (sb_ret (wk_any _) (sm_andz (sm_callD (wk_any _) sim_is_whole u1_len (sm_consz (sm_var fun _ _ => rfl) sm_nil)) (sm_chainz (sm_var fun _ _ => rfl) (sm_var fun _ _ => rfl) (sm_var fun _ _ => rfl))))))
theorem sim_is_tuple_of : SimF0 F_is_tuple_of (u2 t_is_tuple_of) := by
  unfold F_is_tuple_of B_is_tuple_of
  exact sf2 (fun x_value x_many => (fun js w => [.val x_value, .val x_many])) (fun _ _ _ _ => rfl) (fun x_value x_many => by
    unfold t_is_tuple_of
    exact (sb_rr (sb_ret (wk_any _) (sm_andz (sm_B (sm_consz (sm_var fun _ _ => rfl) (sm_consz sm_C sm_nil))) (sm_2z (sm_B (sm_consz (sm_var fun _ _ => rfl) sm_nil)) (sm_var fun _ _ => rfl))))))
theorem sim_is_value_by : SimF0 F_is_value_by (u1 t_is_value_by) := by
  unfold F_is_value_by B_is_value_by
  exact sf1 (fun x_value => (fun js w => [.val x_value])) (fun _ _ _ => rfl) (fun x_value => by
    unfold t_is_value_by
    exact (sb_rr (sb_ret (wk_any _) (sm_andz (sm_callD (wk_any _) sim_is_tuple_of u2_len (sm_consz (sm_var fun _ _ => rfl) (sm_consz sm_C sm_nil))) (sm_andz (sm_callD (wk_any _) sim_is_between u3_len (sm_consz (sm_2z (sm_var fun _ _ => rfl) sm_C) (sm_consz (sm_1 sm_C) (sm_consz sm_C sm_nil)))) (sm_callD (wk_any _) sim_is_between u3_len (sm_consz (sm_2z (sm_var fun _ _ => rfl) sm_C) (sm_consz sm_C (sm_consz sm_C sm_nil)))))))))
theorem sim_first_wrong__is_value_by : SimF0 F_first_wrong__is_value_by (u4 t_first_wrong__is_value_by) := by
  unfold F_first_wrong__is_value_by B_first_wrong__is_value_by
  exact sf4 (fun x_value x_fewest x_most x_is_right => (fun js w => [.val x_value, .val x_fewest, .val x_most, .val x_is_right, .no, .no])) (fun _ _ _ _ _ _ => rfl) (fun x_value x_fewest x_most x_is_right => by
    unfold t_first_wrong__is_value_by
    exact (sb_ifseq (sb_if (c1 := 0) (c2 := 0) (c3 := 0) (sm_tOrz (sm_tNot (sm_tru (sm_B (sm_consz (sm_var fun _ _ => rfl) (sm_consz sm_C sm_nil))))) (sm_tNot (sm_mT (sm_chainz (sm_var fun _ _ => rfl) (sm_B (sm_consz (sm_var fun _ _ => rfl) sm_nil)) (sm_var fun _ _ => rfl))))) (sb_rr (sb_eq ret_seq (sb_ret (wk_any _) (sm_fz (sm_lst (sm_consz sm_C sm_nil)))))) (sb_nxseq (sb_rr (sb_ret (wk_any _) (sm_cutz (sm_fz (sm_comp (c1 := 0) (c2 := 0) (c3 := 0) (c4 := 0) (fun js w => [.val x_value, .val x_fewest, .val x_most, .val x_is_right, .no, .no]) (fun (v1 : D × (D × (Unit))) => (fun js w => [.val x_value, .val x_fewest, .val x_most, .val x_is_right, .val v1.1, .val v1.2.1])) (sm_iOf (sm_consz (sm_var fun _ _ => rfl) sm_nil)) (fun _ => sg_tup' (fun _ => sg_cons' (c1 := 0) (c2 := 0) (f1 := fun (a2 : D) => (fun js w => [.val x_value, .val x_fewest, .val x_most, .val x_is_right, .val a2, .no])) (f2 := fun (a2 : D) (b2 : D × (Unit)) => (fun js w => [.val x_value, .val x_fewest, .val x_most, .val x_is_right, .val a2, .val b2.1])) (fun _ => sg_v (fun dd => (fun js w => [.val x_value, .val x_fewest, .val x_most, .val x_is_right, .val dd, .no])) (fun _ _ => (Nat.le_of_ble_eq_true rfl)) (fun _ _ _ => rfl)) (fun a2 => (fun _ => sg_cons' (c1 := 0) (c2 := 0) (f1 := fun (a3 : D) => (fun js w => [.val x_value, .val x_fewest, .val x_most, .val x_is_right, .val a2, .val a3])) (f2 := fun (a3 : D) (b3 : Unit) => (fun js w => [.val x_value, .val x_fewest, .val x_most, .val x_is_right, .val a2, .val a3])) (fun _ => sg_v (fun dd => (fun js w => [.val x_value, .val x_fewest, .val x_most, .val x_is_right, .val a2, .val dd])) (fun _ _ => (Nat.le_of_ble_eq_true rfl)) (fun _ _ _ => rfl)) (fun a3 => (fun _ => sg_nil')) (Nat.le_of_ble_eq_true rfl))) (Nat.le_of_ble_eq_true rfl))) (fun v1 => (sm_tNot (sm_tru (sm_callPv (fun _ _ => rfl) (wk_any _) sim_is_value_by u1_len (sm_consz (sm_var fun _ _ => rfl) sm_nil))))) (fun v1 => (sm_var fun _ _ => rfl)) (fun _ _ => rfl) (fun _ _ => rfl) (fun _ js _ => ⟨js, rfl⟩) (fun _ _ js _ => ⟨js, rfl⟩) (Nat.le_of_ble_eq_true rfl))) sm_none (sm_oint sm_C))))) (Nat.le_of_ble_eq_true rfl))))
theorem sim_fraction : SimF0 F_fraction (u2 t_fraction) := by
  unfold F_fraction B_fraction
  exact sf2 (fun x_number x_under => (fun js w => [.val x_number, .val x_under, .no])) (fun _ _ _ _ => rfl) (fun x_number x_under => by
    unfold t_fraction
    exact (sb_set (c1 := 0) (c2 := 0) (fun x_part => (fun js w => [.val x_number, .val x_under, .val x_part])) (sm_2z (sm_B (sm_consz (sm_var fun _ _ => rfl) (sm_consz (sm_var fun _ _ => rfl) sm_nil))) (sm_ifz (sm_mT (sm_2z (sm_var fun _ _ => rfl) sm_C)) sm_C (sm_1 sm_C))) (fun _ _ => (Nat.le_of_ble_eq_true rfl)) (fun _ _ _ => rfl) (fun x_part => (sb_rr (sb_ret (wk_any _) (sm_tup (sm_consz (sm_2z (sm_var fun _ _ => rfl) (sm_var fun _ _ => rfl)) (sm_consz (sm_2z (sm_var fun _ _ => rfl) (sm_var fun _ _ => rfl)) sm_nil)))))) (Nat.le_of_ble_eq_true rfl)))
theorem sim_is_less : SimF0 F_is_less (u2 t_is_less) := by
  unfold F_is_less B_is_less
  exact sf2 (fun x_one x_two => (fun js w => [.val x_one, .val x_two])) (fun _ _ _ _ => rfl) (fun x_one x_two => by
    unfold t_is_less
    exact (sb_rr (sb_ret (wk_any _) (sm_2z (sm_2z (sm_2z (sm_var fun _ _ => rfl) sm_C) (sm_2z (sm_var fun _ _ => rfl) sm_C)) (sm_2z (sm_2z (sm_var fun _ _ => rfl) sm_C) (sm_2z (sm_var fun _ _ => rfl) sm_C))))))
theorem sim_greater_of : SimF0 F_greater_of (u2 t_greater_of) := by
  unfold F_greater_of B_greater_of
  exact sf2 (fun x_one x_two => (fun js w => [.val x_one, .val x_two])) (fun _ _ _ _ => rfl) (fun x_one x_two => by
    unfold t_greater_of
    exact (sb_rr (sb_ret (wk_any _) (sm_ifz (sm_tru (sm_callD (wk_any _) sim_is_less u2_len (sm_consz (sm_var fun _ _ => rfl) (sm_consz (sm_var fun _ _ => rfl) sm_nil)))) (sm_var fun _ _ => rfl) (sm_var fun _ _ => rfl)))))
theorem sim_lesser_of : SimF0 F_lesser_of (u2 t_lesser_of) := by
  unfold F_lesser_of B_lesser_of
  exact sf2 (fun x_one x_two => (fun js w => [.val x_one, .val x_two])) (fun _ _ _ _ => rfl) (fun x_one x_two => by
    unfold t_lesser_of
    exact (sb_rr (sb_ret (wk_any _) (sm_ifz (sm_tru (sm_callD (wk_any _) sim_is_less u2_len (sm_consz (sm_var fun _ _ => rfl) (sm_consz (sm_var fun _ _ => rfl) sm_nil)))) (sm_var fun _ _ => rfl) (sm_var fun _ _ => rfl)))))
theorem sim_greatest_of : SimF0 F_greatest_of (u1 t_greatest_of) := by
  unfold F_greatest_of B_greatest_of
  exact sf1 (fun x_some => (fun js w => [.val x_some, .no, .no])) (fun _ _ _ => rfl) (fun x_some => by
    unfold t_greatest_of
    exact (sb_set (c1 := 0) (c2 := 0) (fun x_found => (fun js w => [.val x_some, .val x_found, .no])) (sm_2z (sm_var fun _ _ => rfl) sm_C) (fun _ _ => (Nat.le_of_ble_eq_true rfl)) (fun _ _ _ => rfl) (fun x_found => (sb_for (c1 := 0) (c2 := 0) (c3 := 0) (c4 := 0) (fun (s1 : D) => (fun js w => [.val x_some, .val s1, oe (js.v.getD 2 none)])) (fun (s1 : D) (x_each : D) => (fun js w => [.val x_some, .val s1, .val x_each])) x_found (sm_row (sm_cutz (sm_var fun _ _ => rfl) (sm_oint sm_C) sm_none)) (wk (fun js w => ⟨[], []⟩) (fun _ _ => rfl)) (fun s1 => (fun _ => sg_v (fun dd => (fun js w => [.val x_some, .val s1, .val dd])) (fun _ _ => (Nat.le_of_ble_eq_true rfl)) (fun _ _ _ => rfl))) (fun s1 x_each => (sb_last (sb_set (c1 := 0) (c2 := 0) (fun x_found_2 => (fun js w => [.val x_some, .val x_found_2, .val x_each])) (sm_callD (wk_any _) sim_greater_of u2_len (sm_consz (sm_var fun _ _ => rfl) (sm_consz (sm_var fun _ _ => rfl) sm_nil))) (fun _ _ => (Nat.le_of_ble_eq_true rfl)) (fun _ _ _ => rfl) (fun x_found_2 => (sb_nx x_found_2 (Or.inl rfl) (wk (fun js w => ⟨[none, none, some x_each], []⟩) (fun _ _ => rfl)))) (Nat.le_of_ble_eq_true rfl)))) (fun s2 => (sb_rr (sb_ret (wk_any _) (sm_var fun _ _ => rfl)))) (Nat.le_of_ble_eq_true rfl))) (Nat.le_of_ble_eq_true rfl)))
theorem sim_least_of : SimF0 F_least_of (u1 t_least_of) := by
  unfold F_least_of B_least_of
  exact sf1 (fun x_some => (fun js w => [.val x_some, .no, .no])) (fun _ _ _ => rfl) (fun x_some => by
    unfold t_least_of
    exact (sb_set (c1 := 0) (c2 := 0) (fun x_found => (fun js w => [.val x_some, .val x_found, .no])) (sm_2z (sm_var fun _ _ => rfl) sm_C) (fun _ _ => (Nat.le_of_ble_eq_true rfl)) (fun _ _ _ => rfl) (fun x_found => (sb_for (c1 := 0) (c2 := 0) (c3 := 0) (c4 := 0) (fun (s1 : D) => (fun js w => [.val x_some, .val s1, oe (js.v.getD 2 none)])) (fun (s1 : D) (x_each : D) => (fun js w => [.val x_some, .val s1, .val x_each])) x_found (sm_row (sm_cutz (sm_var fun _ _ => rfl) (sm_oint sm_C) sm_none)) (wk (fun js w => ⟨[], []⟩) (fun _ _ => rfl)) (fun s1 => (fun _ => sg_v (fun dd => (fun js w => [.val x_some, .val s1, .val dd])) (fun _ _ => (Nat.le_of_ble_eq_true rfl)) (fun _ _ _ => rfl))) (fun s1 x_each => (sb_last (sb_set (c1 := 0) (c2 := 0) (fun x_found_2 => (fun js w => [.val x_some, .val x_found_2, .val x_each])) (sm_callD (wk_any _) sim_lesser_of u2_len (sm_consz (sm_var fun _ _ => rfl) (sm_consz (sm_var fun _ _ => rfl) sm_nil))) (fun _ _ => (Nat.le_of_ble_eq_true rfl)) (fun _ _ _ => rfl) (fun x_found_2 => (sb_nx x_found_2 (Or.inl rfl) (wk (fun js w => ⟨[none, none, some x_each], []⟩) (fun _ _ => rfl)))) (Nat.le_of_ble_eq_true rfl)))) (fun s2 => (sb_rr (sb_ret (wk_any _) (sm_var fun _ _ => rfl)))) (Nat.le_of_ble_eq_true rfl))) (Nat.le_of_ble_eq_true rfl)))
theorem sim_wrong_in_values : SimF0 F_wrong_in_values (u1 t_wrong_in_values) := by
  unfold F_wrong_in_values B_wrong_in_values
  exact sf1 (fun x_value => (fun js w => [.val x_value])) (fun _ _ _ => rfl) (fun x_value => by
    unfold t_wrong_in_values
    exact (sb_rr (sb_ret (wk_any _) (sm_callD (wk_any _) sim_first_wrong__is_value_by u4_len (sm_consz (sm_var fun _ _ => rfl) (sm_consz sm_C (sm_consz sm_C (sm_consz sm_C sm_nil))))))))
theorem sim_mean_by : SimF0 F_mean_by (u3 t_mean_by) := by
  unfold F_mean_by B_mean_by
  exact sf3 (fun x_values x_one x_two => (fun js w => [.val x_values, .val x_one, .val x_two, .no, .no, .no, .no])) (fun _ _ _ _ _ => rfl) (fun x_values x_one x_two => by
    unfold t_mean_by
    exact (sb_set (c1 := 0) (c2 := 0) (fun x_part => (fun js w => [.val x_values, .val x_one, .val x_two, .val x_part, .no, .no, .no])) (sm_cutz (sm_var fun _ _ => rfl) (sm_oint (sm_var fun _ _ => rfl)) (sm_oint (sm_2z (sm_var fun _ _ => rfl) sm_C))) (fun _ _ => (Nat.le_of_ble_eq_true rfl)) (fun _ _ _ => rfl) (fun x_part => (sb_rr (sb_ret (wk_any _) (sm_callD (wk_any _) sim_fraction u2_len (sm_consz (sm_B (sm_consz (sm_fz (sm_comp (c1 := 0) (c2 := 0) (c3 := 0) (c4 := 0) (fun js w => [.val x_values, .val x_one, .val x_two, .val x_part, .no, .no, .no]) (fun (v1 : D × (D × (Unit))) => (fun js w => [.val x_values, .val x_one, .val x_two, .val x_part, .val v1.1, .val v1.2.1, .no])) (sm_row (sm_var fun _ _ => rfl)) (fun _ => sg_tup' (fun _ => sg_cons' (c1 := 0) (c2 := 0) (f1 := fun (a2 : D) => (fun js w => [.val x_values, .val x_one, .val x_two, .val x_part, .val a2, .no, .no])) (f2 := fun (a2 : D) (b2 : D × (Unit)) => (fun js w => [.val x_values, .val x_one, .val x_two, .val x_part, .val a2, .val b2.1, .no])) (fun _ => sg_v (fun dd => (fun js w => [.val x_values, .val x_one, .val x_two, .val x_part, .val dd, .no, .no])) (fun _ _ => (Nat.le_of_ble_eq_true rfl)) (fun _ _ _ => rfl)) (fun a2 => (fun _ => sg_cons' (c1 := 0) (c2 := 0) (f1 := fun (a3 : D) => (fun js w => [.val x_values, .val x_one, .val x_two, .val x_part, .val a2, .val a3, .no])) (f2 := fun (a3 : D) (b3 : Unit) => (fun js w => [.val x_values, .val x_one, .val x_two, .val x_part, .val a2, .val a3, .no])) (fun _ => sg_v (fun dd => (fun js w => [.val x_values, .val x_one, .val x_two, .val x_part, .val a2, .val dd, .no])) (fun _ _ => (Nat.le_of_ble_eq_true rfl)) (fun _ _ _ => rfl)) (fun a3 => (fun _ => sg_nil')) (Nat.le_of_ble_eq_true rfl))) (Nat.le_of_ble_eq_true rfl))) (fun v1 => sm_P) (fun v1 => (sm_2z (sm_var fun _ _ => rfl) (sm_var fun _ _ => rfl))) (fun _ _ => rfl) (fun _ _ => rfl) (fun _ js _ => ⟨js, rfl⟩) (fun _ _ js _ => ⟨js, rfl⟩) (Nat.le_of_ble_eq_true rfl))) sm_nil)) (sm_consz (sm_B (sm_consz (sm_fz (sm_comp (c1 := 0) (c2 := 0) (c3 := 0) (c4 := 0) (fun js w => [.val x_values, .val x_one, .val x_two, .val x_part, .no, .no, .no]) (fun (v5 : D × (D × (Unit))) => (fun js w => [.val x_values, .val x_one, .val x_two, .val x_part, .no, .val v5.2.1, .val v5.1])) (sm_row (sm_var fun _ _ => rfl)) (fun _ => sg_tup' (fun _ => sg_cons' (c1 := 0) (c2 := 0) (f1 := fun (a6 : D) => (fun js w => [.val x_values, .val x_one, .val x_two, .val x_part, .no, .no, .val a6])) (f2 := fun (a6 : D) (b6 : D × (Unit)) => (fun js w => [.val x_values, .val x_one, .val x_two, .val x_part, .no, .val b6.1, .val a6])) (fun _ => sg_v (fun dd => (fun js w => [.val x_values, .val x_one, .val x_two, .val x_part, .no, .no, .val dd])) (fun _ _ => (Nat.le_of_ble_eq_true rfl)) (fun _ _ _ => rfl)) (fun a6 => (fun _ => sg_cons' (c1 := 0) (c2 := 0) (f1 := fun (a7 : D) => (fun js w => [.val x_values, .val x_one, .val x_two, .val x_part, .no, .val a7, .val a6])) (f2 := fun (a7 : D) (b7 : Unit) => (fun js w => [.val x_values, .val x_one, .val x_two, .val x_part, .no, .val a7, .val a6])) (fun _ => sg_v (fun dd => (fun js w => [.val x_values, .val x_one, .val x_two, .val x_part, .no, .val dd, .val a6])) (fun _ _ => (Nat.le_of_ble_eq_true rfl)) (fun _ _ _ => rfl)) (fun a7 => (fun _ => sg_nil')) (Nat.le_of_ble_eq_true rfl))) (Nat.le_of_ble_eq_true rfl))) (fun v5 => sm_P) (fun v5 => (sm_var fun _ _ => rfl)) (fun _ _ => rfl) (fun _ _ => rfl) (fun _ js _ => ⟨js, rfl⟩) (fun _ _ js _ => ⟨js, rfl⟩) (Nat.le_of_ble_eq_true rfl))) sm_nil)) sm_nil)))))) (Nat.le_of_ble_eq_true rfl)))
theorem sim_least_mean : SimF0 F_least_mean (u3 t_least_mean) := by
  unfold F_least_mean B_least_mean
  exact sf3 (fun x_values x_one x_at => (fun js w => [.val x_values, .val x_one, .val x_at, .no])) (fun _ _ _ _ _ => rfl) (fun x_values x_one x_at => by
    unfold t_least_mean
    exact (sb_rr (sb_ret (wk_any _) (sm_callD (wk_any _) sim_least_of u1_len (sm_consz (sm_fz (sm_comp (c1 := 0) (c2 := 0) (c3 := 0) (c4 := 0) (fun js w => [.val x_values, .val x_one, .val x_at, .no]) (fun (x_two : D) => (fun js w => [.val x_values, .val x_one, .val x_at, .val x_two])) (sm_iOf (sm_consz (sm_var fun _ _ => rfl) (sm_consz (sm_B (sm_consz (sm_var fun _ _ => rfl) sm_nil)) sm_nil))) (fun _ => sg_v (fun dd => (fun js w => [.val x_values, .val x_one, .val x_at, .val dd])) (fun _ _ => (Nat.le_of_ble_eq_true rfl)) (fun _ _ _ => rfl)) (fun x_two => sm_P) (fun x_two => (sm_callD (wk_any _) sim_mean_by u3_len (sm_consz (sm_var fun _ _ => rfl) (sm_consz (sm_var fun _ _ => rfl) (sm_consz (sm_var fun _ _ => rfl) sm_nil))))) (fun _ _ => rfl) (fun _ _ => rfl) (fun _ js _ => ⟨js, rfl⟩) (fun _ _ js _ => ⟨js, rfl⟩) (Nat.le_of_ble_eq_true rfl))) sm_nil)))))
theorem sim_rising_by : SimF0 F_rising_by (u1 t_rising_by) := by
  unfold F_rising_by B_rising_by
  exact sf1 (fun x_values => (fun js w => [.val x_values, .no, .no, .no])) (fun _ _ _ => rfl) (fun x_values => by
    unfold t_rising_by
    exact (sb_set (c1 := 0) (c2 := 0) (fun x_places => (fun js w => [.val x_values, .val x_places, .no, .no])) (sm_fz (sm_lB (sm_consz (sm_B (sm_consz (sm_var fun _ _ => rfl) sm_nil)) sm_nil))) (fun _ _ => (Nat.le_of_ble_eq_true rfl)) (fun _ _ _ => rfl) (fun x_places => (sb_rr (sb_ret (wk_any _) (sm_B (sm_consz (sm_fz (sm_comp (c1 := 0) (c2 := 0) (c3 := 0) (c4 := 0) (fun js w => [.val x_values, .val x_places, .no, .no]) (fun (x_at : D) => (fun js w => [.val x_values, .val x_places, .val x_at, .no])) (sm_row (sm_var fun _ _ => rfl)) (fun _ => sg_v (fun dd => (fun js w => [.val x_values, .val x_places, .val dd, .no])) (fun _ _ => (Nat.le_of_ble_eq_true rfl)) (fun _ _ _ => rfl)) (fun x_at => sm_P) (fun x_at => (sm_callD (wk_any _) sim_greatest_of u1_len (sm_consz (sm_fz (sm_comp (c1 := 0) (c2 := 0) (c3 := 0) (c4 := 0) (fun js w => [.val x_values, .val x_places, .val x_at, .no]) (fun (x_one : D) => (fun js w => [.val x_values, .val x_places, .val x_at, .val x_one])) (sm_iOf (sm_consz (sm_2z (sm_var fun _ _ => rfl) sm_C) sm_nil)) (fun _ => sg_v (fun dd => (fun js w => [.val x_values, .val x_places, .val x_at, .val dd])) (fun _ _ => (Nat.le_of_ble_eq_true rfl)) (fun _ _ _ => rfl)) (fun x_one => sm_P) (fun x_one => (sm_callD (wk_any _) sim_least_mean u3_len (sm_consz (sm_var fun _ _ => rfl) (sm_consz (sm_var fun _ _ => rfl) (sm_consz (sm_var fun _ _ => rfl) sm_nil))))) (fun _ _ => rfl) (fun _ _ => rfl) (fun _ js _ => ⟨js, rfl⟩) (fun _ _ js _ => ⟨js, rfl⟩) (Nat.le_of_ble_eq_true rfl))) sm_nil))) (fun _ _ => rfl) (fun _ _ => rfl) (fun _ js _ => ⟨js, rfl⟩) (fun _ _ js _ => ⟨js, rfl⟩) (Nat.le_of_ble_eq_true rfl))) sm_nil))))) (Nat.le_of_ble_eq_true rfl)))
theorem sim_check_values : SimF0 F_check_values (u1 t_check_values) := by
  unfold F_check_values B_check_values
  exact sf1 (fun x_value => (fun js w => [.val x_value, .no])) (fun _ _ _ => rfl) (fun x_value => by
    unfold t_check_values
    exact (sb_last (sb_for (c1 := 0) (c2 := 0) (c3 := 0) (c4 := 0) (fun (s1 : Unit) => (fun js w => [.val x_value, oe (js.v.getD 1 none)])) (fun (s1 : Unit) (x_index : D) => (fun js w => [.val x_value, .val x_index])) () (sm_row (sm_callD (wk_any _) sim_wrong_in_values u1_len (sm_consz (sm_var fun _ _ => rfl) sm_nil))) (wk (fun js w => ⟨[], []⟩) (fun _ _ => rfl)) (fun s1 => (fun _ => sg_v (fun dd => (fun js w => [.val x_value, .val dd])) (fun _ _ => (Nat.le_of_ble_eq_true rfl)) (fun _ _ _ => rfl))) (fun s1 x_index => sb_bad) (fun s2 => (sb_endN (wk_any _))) (Nat.le_of_ble_eq_true rfl))))
theorem sim_rising : SimF0 F_rising (u1 t_rising) := by
  unfold F_rising B_rising
  exact sf1 (fun x_values => (fun js w => [.val x_values])) (fun _ _ _ => rfl) (fun x_values => by
    unfold t_rising
    exact (sb_expr (c1 := 0) (c2 := 0) (sm_callD (wk_any _) sim_check_values u1_len (sm_consz (sm_var fun _ _ => rfl) sm_nil)) (fun _ => (sb_rr (sb_ret (wk_any _) (sm_callD (wk_any _) sim_rising_by u1_len (sm_consz (sm_var fun _ _ => rfl) sm_nil))))) (Nat.le_of_ble_eq_true rfl)))
theorem sim__law_alike : ∀ n : Nat, SimF0 (F__law_alike n) (u2 (t__law_alike n))
  | 0 => fun ds P E p => by
    obtain ⟨_, _, _, p⟩ := u2_inv p
    exact p.elim
  | n + 1 => by
    unfold F__law_alike B__law_alike
    have SR := sim__law_alike n
    exact sf2 (fun x_one x_two => (fun js w => [.val x_one, .val x_two, .no])) (fun _ _ _ _ => rfl) fun x_one x_two => by
      unfold t__law_alike
      exact (sb_ifseq (sb_if (c1 := 0) (c2 := 0) (c3 := 0) (sm_tOrz (sm_tru (sm_B (sm_consz (sm_var fun _ _ => rfl) (sm_consz sm_C sm_nil)))) (sm_tru (sm_B (sm_consz (sm_var fun _ _ => rfl) (sm_consz sm_C sm_nil))))) (sb_rr (sb_eq ret_seq (sb_ret (wk_any _) (sm_andz (sm_B (sm_consz (sm_var fun _ _ => rfl) (sm_consz sm_C sm_nil))) (sm_andz (sm_B (sm_consz (sm_var fun _ _ => rfl) (sm_consz sm_C sm_nil))) (sm_2z (sm_var fun _ _ => rfl) (sm_var fun _ _ => rfl))))))) (sb_nxseq (sb_ifseq (sb_if (c1 := 0) (c2 := 0) (c3 := 0) (sm_tOrz (sm_tru (sm_B (sm_consz (sm_var fun _ _ => rfl) (sm_consz sm_C sm_nil)))) (sm_tru (sm_B (sm_consz (sm_var fun _ _ => rfl) (sm_consz sm_C sm_nil))))) (sb_rr (sb_eq ret_seq (sb_ret (wk_any _) (sm_andz (sm_B (sm_consz (sm_var fun _ _ => rfl) (sm_consz sm_C sm_nil))) (sm_andz (sm_B (sm_consz (sm_var fun _ _ => rfl) (sm_consz sm_C sm_nil))) (sm_2z (sm_var fun _ _ => rfl) (sm_var fun _ _ => rfl))))))) (sb_nxseq (sb_ifseq (sb_if (c1 := 0) (c2 := 0) (c3 := 0) (sm_tOrz (sm_tru (sm_B (sm_consz (sm_var fun _ _ => rfl) (sm_consz sm_C sm_nil)))) (sm_tru (sm_B (sm_consz (sm_var fun _ _ => rfl) (sm_consz sm_C sm_nil))))) (sb_rr (sb_eq ret_seq (sb_ret (wk_any _) (sm_andz (sm_B (sm_consz (sm_var fun _ _ => rfl) (sm_consz sm_C sm_nil))) (sm_andz (sm_B (sm_consz (sm_var fun _ _ => rfl) (sm_consz sm_C sm_nil))) (sm_2z (sm_var fun _ _ => rfl) (sm_var fun _ _ => rfl))))))) (sb_nxseq (sb_ifseq (sb_if (c1 := 0) (c2 := 0) (c3 := 0) (sm_tOrz (sm_mT (sm_2z (sm_var fun _ _ => rfl) sm_C)) (sm_mT (sm_2z (sm_var fun _ _ => rfl) sm_C))) (sb_rr (sb_eq ret_seq (sb_ret (wk_any _) (sm_andz (sm_2z (sm_var fun _ _ => rfl) sm_C) (sm_2z (sm_var fun _ _ => rfl) sm_C))))) (sb_nxseq (sb_ifseq (sb_if (c1 := 0) (c2 := 0) (c3 := 0) (sm_tOrz (sm_tru (sm_B (sm_consz (sm_var fun _ _ => rfl) (sm_consz sm_C sm_nil)))) (sm_tru (sm_B (sm_consz (sm_var fun _ _ => rfl) (sm_consz sm_C sm_nil))))) (sb_rr (sb_eq ret_seq (sb_ret (wk_any _) (sm_andz (sm_B (sm_consz (sm_var fun _ _ => rfl) (sm_consz sm_C sm_nil))) (sm_andz (sm_B (sm_consz (sm_var fun _ _ => rfl) (sm_consz sm_C sm_nil))) (sm_chainz (sm_B (sm_consz (sm_var fun _ _ => rfl) sm_nil)) (sm_B (sm_consz (sm_var fun _ _ => rfl) sm_nil)) sm_C)))))) (sb_nxseq (sb_ifseq (sb_if (c1 := 0) (c2 := 0) (c3 := 0) (sm_tOrz (sm_mT (sm_2z (sm_B (sm_consz (sm_var fun _ _ => rfl) (sm_consz sm_C sm_nil))) (sm_B (sm_consz (sm_var fun _ _ => rfl) (sm_consz sm_C sm_nil))))) (sm_mT (sm_2z (sm_B (sm_consz (sm_var fun _ _ => rfl) (sm_consz sm_C sm_nil))) (sm_B (sm_consz (sm_var fun _ _ => rfl) (sm_consz sm_C sm_nil)))))) (sb_rr (sb_eq ret_seq (sb_ret (wk_any _) sm_C))) (sb_nxseq (sb_ifseq (sb_if (c1 := 0) (c2 := 0) (c3 := 0) (sm_tOrz (sm_tNot (sm_tru (sm_isT (sm_var fun _ _ => rfl)))) (sm_mT (sm_2z (sm_B (sm_consz (sm_var fun _ _ => rfl) sm_nil)) (sm_B (sm_consz (sm_var fun _ _ => rfl) sm_nil))))) (sb_rr (sb_eq ret_seq (sb_ret (wk_any _) sm_C))) (sb_nxseq (sb_rr (sb_ret (wk_any _) (sm_B (sm_consz (sm_fz (sm_comp (c1 := 0) (c2 := 0) (c3 := 0) (c4 := 0) (fun js w => [.val x_one, .val x_two, .no]) (fun (x_k : D) => (fun js w => [.val x_one, .val x_two, .val x_k])) (sm_iOf (sm_consz (sm_B (sm_consz (sm_var fun _ _ => rfl) sm_nil)) sm_nil)) (fun _ => sg_v (fun dd => (fun js w => [.val x_one, .val x_two, .val dd])) (fun _ _ => (Nat.le_of_ble_eq_true rfl)) (fun _ _ _ => rfl)) (fun x_k => sm_P) (fun x_k => (sm_callD (wk_any _) (SR) u2_len (sm_consz (sm_2z (sm_var fun _ _ => rfl) (sm_var fun _ _ => rfl)) (sm_consz (sm_2z (sm_var fun _ _ => rfl) (sm_var fun _ _ => rfl)) sm_nil)))) (fun _ _ => rfl) (fun _ _ => rfl) (fun _ js _ => ⟨js, rfl⟩) (fun _ _ js _ => ⟨js, rfl⟩) (Nat.le_of_ble_eq_true rfl))) sm_nil))))) (Nat.le_of_ble_eq_true rfl)))) (Nat.le_of_ble_eq_true rfl)))) (Nat.le_of_ble_eq_true rfl)))) (Nat.le_of_ble_eq_true rfl)))) (Nat.le_of_ble_eq_true rfl)))) (Nat.le_of_ble_eq_true rfl)))) (Nat.le_of_ble_eq_true rfl)))
theorem sim__law_divisor : SimF0 F__law_divisor (u2 t__law_divisor) := by
  unfold F__law_divisor B__law_divisor
  exact sf2 (fun x_one x_two => (fun js w => [.val x_one, .val x_two])) (fun _ _ _ _ => rfl) (fun x_one x_two => by
    unfold t__law_divisor
    exact (sb_while (c1 := 0) (c2 := 0) (c3 := 0) (fun (s1 : D × D) => (fun js w => [.val s1.1, .val s1.2])) (x_one, x_two) (wk (fun js w => ⟨[], []⟩) (fun _ _ => rfl)) (fun s1 => (sm_mT (sm_2z (sm_var fun _ _ => rfl) sm_C))) (fun s1 => (sb_last (sb_par2 (c1 := 0) (c2 := 0) (fun x_one_2 x_two_2 => (fun js w => [.val x_one_2, .val x_two_2])) (sm_consz (sm_var fun _ _ => rfl) (sm_consz (sm_2z (sm_B (sm_consz (sm_var fun _ _ => rfl) sm_nil)) (sm_var fun _ _ => rfl)) sm_nil)) (fun _ _ => ⟨(Nat.le_of_ble_eq_true rfl), (Nat.le_of_ble_eq_true rfl)⟩) (fun _ _ _ _ => rfl) (fun x_one_2 x_two_2 => (sb_nx (x_one_2, x_two_2) (Or.inl rfl) (wk (fun js w => ⟨[], []⟩) (fun _ _ => rfl)))) (Nat.le_of_ble_eq_true rfl)))) (fun s2 => (sb_rr (sb_ret (wk_any _) (sm_var fun _ _ => rfl)))) (Nat.le_of_ble_eq_true rfl)))
theorem sim__law_f : SimF0 F__law_f (u2 t__law_f) := by
  unfold F__law_f B__law_f
  exact sf2 (fun x_top x_low => (fun js w => [.val x_top, .val x_low, .no])) (fun _ _ _ _ => rfl) (fun x_top x_low => by
    unfold t__law_f
    exact (sb_set (c1 := 0) (c2 := 0) (fun x_by => (fun js w => [.val x_top, .val x_low, .val x_by])) (sm_callD (wk_any _) sim__law_divisor u2_len (sm_consz (sm_B (sm_consz (sm_var fun _ _ => rfl) sm_nil)) (sm_consz (sm_B (sm_consz (sm_var fun _ _ => rfl) sm_nil)) sm_nil))) (fun _ _ => (Nat.le_of_ble_eq_true rfl)) (fun _ _ _ => rfl) (fun x_by => (sb_set (c1 := 0) (c2 := 0) (fun x_by_2 => (fun js w => [.val x_top, .val x_low, .val x_by_2])) (sm_ifz (sm_mT (sm_2z (sm_var fun _ _ => rfl) sm_C)) (sm_var fun _ _ => rfl) (sm_2z sm_C (sm_var fun _ _ => rfl))) (fun _ _ => (Nat.le_of_ble_eq_true rfl)) (fun _ _ _ => rfl) (fun x_by_2 => (sb_rr (sb_ret (wk_any _) (sm_tup (sm_consz (sm_2z (sm_var fun _ _ => rfl) (sm_var fun _ _ => rfl)) (sm_consz (sm_2z (sm_var fun _ _ => rfl) (sm_var fun _ _ => rfl)) sm_nil)))))) (Nat.le_of_ble_eq_true rfl))) (Nat.le_of_ble_eq_true rfl)))
theorem sim__law_plus : SimF0 F__law_plus (u2 t__law_plus) := by
  unfold F__law_plus B__law_plus
  exact sf2 (fun x_one x_two => (fun js w => [.val x_one, .val x_two])) (fun _ _ _ _ => rfl) (fun x_one x_two => by
    unfold t__law_plus
    exact (sb_rr (sb_ret (wk_any _) (sm_callD (wk_any _) sim__law_f u2_len (sm_consz (sm_2z (sm_2z (sm_2z (sm_var fun _ _ => rfl) sm_C) (sm_2z (sm_var fun _ _ => rfl) sm_C)) (sm_2z (sm_2z (sm_var fun _ _ => rfl) sm_C) (sm_2z (sm_var fun _ _ => rfl) sm_C))) (sm_consz (sm_2z (sm_2z (sm_var fun _ _ => rfl) sm_C) (sm_2z (sm_var fun _ _ => rfl) sm_C)) sm_nil))))))
theorem sim__law_by : SimF0 F__law_by (u2 t__law_by) := by
  unfold F__law_by B__law_by
  exact sf2 (fun x_one x_two => (fun js w => [.val x_one, .val x_two])) (fun _ _ _ _ => rfl) (fun x_one x_two => by
    unfold t__law_by
    exact (sb_rr (sb_ret (wk_any _) (sm_callD (wk_any _) sim__law_f u2_len (sm_consz (sm_2z (sm_2z (sm_var fun _ _ => rfl) sm_C) (sm_2z (sm_var fun _ _ => rfl) sm_C)) (sm_consz (sm_2z (sm_2z (sm_var fun _ _ => rfl) sm_C) (sm_2z (sm_var fun _ _ => rfl) sm_C)) sm_nil))))))
theorem sim__law_below : SimF0 F__law_below (u2 t__law_below) := by
  unfold F__law_below B__law_below
  exact sf2 (fun x_one x_two => (fun js w => [.val x_one, .val x_two])) (fun _ _ _ _ => rfl) (fun x_one x_two => by
    unfold t__law_below
    exact (sb_rr (sb_ret (wk_any _) (sm_2z (sm_2z (sm_2z (sm_var fun _ _ => rfl) sm_C) (sm_2z (sm_var fun _ _ => rfl) sm_C)) (sm_2z (sm_2z (sm_var fun _ _ => rfl) sm_C) (sm_2z (sm_var fun _ _ => rfl) sm_C))))))
theorem sim__law_most : SimF0 F__law_most (u1 t__law_most) := by
  unfold F__law_most B__law_most
  exact sf1 (fun x_some => (fun js w => [.val x_some, .no, .no])) (fun _ _ _ => rfl) (fun x_some => by
    unfold t__law_most
    exact (sb_set (c1 := 0) (c2 := 0) (fun x_found => (fun js w => [.val x_some, .val x_found, .no])) (sm_2z (sm_var fun _ _ => rfl) sm_C) (fun _ _ => (Nat.le_of_ble_eq_true rfl)) (fun _ _ _ => rfl) (fun x_found => (sb_for (c1 := 0) (c2 := 0) (c3 := 0) (c4 := 0) (fun (s1 : D) => (fun js w => [.val x_some, .val s1, oe (js.v.getD 2 none)])) (fun (s1 : D) (x_each : D) => (fun js w => [.val x_some, .val s1, .val x_each])) x_found (sm_row (sm_var fun _ _ => rfl)) (wk (fun js w => ⟨[], []⟩) (fun _ _ => rfl)) (fun s1 => (fun _ => sg_v (fun dd => (fun js w => [.val x_some, .val s1, .val dd])) (fun _ _ => (Nat.le_of_ble_eq_true rfl)) (fun _ _ _ => rfl))) (fun s1 x_each => (sb_last (sb_set (c1 := 0) (c2 := 0) (fun x_found_2 => (fun js w => [.val x_some, .val x_found_2, .val x_each])) (sm_ifz (sm_tru (sm_callD (wk_any _) sim__law_below u2_len (sm_consz (sm_var fun _ _ => rfl) (sm_consz (sm_var fun _ _ => rfl) sm_nil)))) (sm_var fun _ _ => rfl) (sm_var fun _ _ => rfl)) (fun _ _ => (Nat.le_of_ble_eq_true rfl)) (fun _ _ _ => rfl) (fun x_found_2 => (sb_nx x_found_2 (Or.inl rfl) (wk (fun js w => ⟨[none, none, some x_each], []⟩) (fun _ _ => rfl)))) (Nat.le_of_ble_eq_true rfl)))) (fun s2 => (sb_rr (sb_ret (wk_any _) (sm_var fun _ _ => rfl)))) (Nat.le_of_ble_eq_true rfl))) (Nat.le_of_ble_eq_true rfl)))
theorem sim__law_least : SimF0 F__law_least (u1 t__law_least) := by
  unfold F__law_least B__law_least
  exact sf1 (fun x_some => (fun js w => [.val x_some, .no, .no])) (fun _ _ _ => rfl) (fun x_some => by
    unfold t__law_least
    exact (sb_set (c1 := 0) (c2 := 0) (fun x_found => (fun js w => [.val x_some, .val x_found, .no])) (sm_2z (sm_var fun _ _ => rfl) sm_C) (fun _ _ => (Nat.le_of_ble_eq_true rfl)) (fun _ _ _ => rfl) (fun x_found => (sb_for (c1 := 0) (c2 := 0) (c3 := 0) (c4 := 0) (fun (s1 : D) => (fun js w => [.val x_some, .val s1, oe (js.v.getD 2 none)])) (fun (s1 : D) (x_each : D) => (fun js w => [.val x_some, .val s1, .val x_each])) x_found (sm_row (sm_var fun _ _ => rfl)) (wk (fun js w => ⟨[], []⟩) (fun _ _ => rfl)) (fun s1 => (fun _ => sg_v (fun dd => (fun js w => [.val x_some, .val s1, .val dd])) (fun _ _ => (Nat.le_of_ble_eq_true rfl)) (fun _ _ _ => rfl))) (fun s1 x_each => (sb_last (sb_set (c1 := 0) (c2 := 0) (fun x_found_2 => (fun js w => [.val x_some, .val x_found_2, .val x_each])) (sm_ifz (sm_tru (sm_callD (wk_any _) sim__law_below u2_len (sm_consz (sm_var fun _ _ => rfl) (sm_consz (sm_var fun _ _ => rfl) sm_nil)))) (sm_var fun _ _ => rfl) (sm_var fun _ _ => rfl)) (fun _ _ => (Nat.le_of_ble_eq_true rfl)) (fun _ _ _ => rfl) (fun x_found_2 => (sb_nx x_found_2 (Or.inl rfl) (wk (fun js w => ⟨[none, none, some x_each], []⟩) (fun _ _ => rfl)))) (Nat.le_of_ble_eq_true rfl)))) (fun s2 => (sb_rr (sb_ret (wk_any _) (sm_var fun _ _ => rfl)))) (Nat.le_of_ble_eq_true rfl))) (Nat.le_of_ble_eq_true rfl)))
theorem sim__law_values : SimFW 600008 0 F__law_values (u1 t__law_values) := by
  unfold F__law_values B__law_values
  exact sfI1_0 (cc := 600008) (g := (fun js w => [.cel .io w, js.a.getD 1 .no, js.a.getD 2 .no, js.a.getD 3 .no, js.a.getD 4 .no, js.a.getD 5 .no, js.a.getD 6 .no])) (fun _ _ => rfl) (fun x_high => (fun js w => [.cel .io w, .val x_high, .no, .no, .no, .no, .no])) (fun _ _ _ => rfl) (fun x_high => by
    unfold t__law_values
    exact (sb_asg (c1 := 4) (c2 := 0) (c3 := 600004) (f2 := fun (v1 : D × (D × (Unit))) => (fun js w => [.cel .io w, .val x_high, .val v1.1, .val v1.2.1, .no, .no, .no])) (sm_tup (sm_cons (c1 := 2) (c2 := 2) (sm_2 (c1 := 0) (c2 := 2) sm_C (sm_callI (c1 := 0) (c2 := 2) (wk (fun js w => ⟨[], [.no, .val x_high, .no, .no, .no, .no, .no]⟩) (fun _ _ => rfl)) (fun _ _ => ⟨_, rfl, fun _ => rfl⟩) (by decide) sim__law_take u1_len' (by decide) (sj_late (fun _ _ => ⟨_, _, rfl⟩) (sa'_val (c1 := 0) (c2 := 0) (sm_var fun _ _ => rfl) sa'_nil (Nat.le_of_ble_eq_true rfl))) (Nat.le_of_ble_eq_true rfl)) (Nat.le_of_ble_eq_true rfl)) (sm_cons (c1 := 2) (c2 := 0) (sm_callI (c1 := 0) (c2 := 2) (wk (fun js w => ⟨[], [.no, .val x_high, .no, .no, .no, .no, .no]⟩) (fun _ _ => rfl)) (fun _ _ => ⟨_, rfl, fun _ => rfl⟩) (by decide) sim__law_take u1_len' (by decide) (sj_late (fun _ _ => ⟨_, _, rfl⟩) (sa'_val (c1 := 0) (c2 := 0) sm_C sa'_nil (Nat.le_of_ble_eq_true rfl))) (Nat.le_of_ble_eq_true rfl)) sm_nil (Nat.le_of_ble_eq_true rfl)) (Nat.le_of_ble_eq_true rfl))) (fun _ => sg_tup' (fun _ => sg_cons' (c1 := 0) (c2 := 0) (f1 := fun (a2 : D) => (fun js w => [.cel .io w, .val x_high, .val a2, .no, .no, .no, .no])) (f2 := fun (a2 : D) (b2 : D × (Unit)) => (fun js w => [.cel .io w, .val x_high, .val a2, .val b2.1, .no, .no, .no])) (fun _ => sg_v (fun dd => (fun js w => [.cel .io w, .val x_high, .val dd, .no, .no, .no, .no])) (fun _ _ => (Nat.le_of_ble_eq_true rfl)) (fun _ _ _ => rfl)) (fun a2 => (fun _ => sg_cons' (c1 := 0) (c2 := 0) (f1 := fun (a3 : D) => (fun js w => [.cel .io w, .val x_high, .val a2, .val a3, .no, .no, .no])) (f2 := fun (a3 : D) (b3 : Unit) => (fun js w => [.cel .io w, .val x_high, .val a2, .val a3, .no, .no, .no])) (fun _ => sg_v (fun dd => (fun js w => [.cel .io w, .val x_high, .val a2, .val dd, .no, .no, .no])) (fun _ _ => (Nat.le_of_ble_eq_true rfl)) (fun _ _ _ => rfl)) (fun a3 => (fun _ => sg_nil')) (Nat.le_of_ble_eq_true rfl))) (Nat.le_of_ble_eq_true rfl))) (fun v1 => (sb_asg (c1 := 4) (c2 := 0) (c3 := 600000) (f2 := fun (v5 : D × (D × (Unit))) => (fun js w => [.cel .io w, .val x_high, .val v1.1, .val v1.2.1, .val v5.1, .val v5.2.1, .no])) (sm_tup (sm_cons (c1 := 2) (c2 := 2) (sm_2 (c1 := 0) (c2 := 2) (sm_tup (sm_consz sm_C (sm_consz sm_C (sm_consz sm_C sm_nil)))) (sm_callI (c1 := 0) (c2 := 2) (wk (fun js w => ⟨[], [.no, .val x_high, .val v1.1, .val v1.2.1, .no, .no, .no]⟩) (fun _ _ => rfl)) (fun _ _ => ⟨_, rfl, fun _ => rfl⟩) (by decide) sim__law_take u1_len' (by decide) (sj_late (fun _ _ => ⟨_, _, rfl⟩) (sa'_val (c1 := 0) (c2 := 0) sm_C sa'_nil (Nat.le_of_ble_eq_true rfl))) (Nat.le_of_ble_eq_true rfl)) (Nat.le_of_ble_eq_true rfl)) (sm_cons (c1 := 2) (c2 := 0) (sm_2 (c1 := 0) (c2 := 2) sm_C (sm_callI (c1 := 0) (c2 := 2) (wk (fun js w => ⟨[], [.no, .val x_high, .val v1.1, .val v1.2.1, .no, .no, .no]⟩) (fun _ _ => rfl)) (fun _ _ => ⟨_, rfl, fun _ => rfl⟩) (by decide) sim__law_take u1_len' (by decide) (sj_late (fun _ _ => ⟨_, _, rfl⟩) (sa'_val (c1 := 0) (c2 := 0) sm_C sa'_nil (Nat.le_of_ble_eq_true rfl))) (Nat.le_of_ble_eq_true rfl)) (Nat.le_of_ble_eq_true rfl)) sm_nil (Nat.le_of_ble_eq_true rfl)) (Nat.le_of_ble_eq_true rfl))) (fun _ => sg_tup' (fun _ => sg_cons' (c1 := 0) (c2 := 0) (f1 := fun (a6 : D) => (fun js w => [.cel .io w, .val x_high, .val v1.1, .val v1.2.1, .val a6, .no, .no])) (f2 := fun (a6 : D) (b6 : D × (Unit)) => (fun js w => [.cel .io w, .val x_high, .val v1.1, .val v1.2.1, .val a6, .val b6.1, .no])) (fun _ => sg_v (fun dd => (fun js w => [.cel .io w, .val x_high, .val v1.1, .val v1.2.1, .val dd, .no, .no])) (fun _ _ => (Nat.le_of_ble_eq_true rfl)) (fun _ _ _ => rfl)) (fun a6 => (fun _ => sg_cons' (c1 := 0) (c2 := 0) (f1 := fun (a7 : D) => (fun js w => [.cel .io w, .val x_high, .val v1.1, .val v1.2.1, .val a6, .val a7, .no])) (f2 := fun (a7 : D) (b7 : Unit) => (fun js w => [.cel .io w, .val x_high, .val v1.1, .val v1.2.1, .val a6, .val a7, .no])) (fun _ => sg_v (fun dd => (fun js w => [.cel .io w, .val x_high, .val v1.1, .val v1.2.1, .val a6, .val dd, .no])) (fun _ _ => (Nat.le_of_ble_eq_true rfl)) (fun _ _ _ => rfl)) (fun a7 => (fun _ => sg_nil')) (Nat.le_of_ble_eq_true rfl))) (Nat.le_of_ble_eq_true rfl))) (fun v5 => (sb_rr (sb_ret (wk (fun js w => ⟨[], [.no, .val x_high, .val v1.1, .val v1.2.1, .val v5.1, .val v5.2.1, .no]⟩) (fun _ _ => rfl)) (sm_B (sm_cons (c1 := 600000) (c2 := 0) (sm_fz (sm_comp (c1 := 0) (c2 := 0) (c3 := 0) (c4 := 6) (fun js w => [.cel .io w, .val x_high, .val v1.1, .val v1.2.1, .val v5.1, .val v5.2.1, .no]) (fun (x_k : D) => (fun js w => [.cel .io w, .val x_high, .val v1.1, .val v1.2.1, .val v5.1, .val v5.2.1, .val x_k])) (sm_iOf (sm_consz (sm_var fun _ _ => rfl) sm_nil)) (fun _ => sg_v (fun dd => (fun js w => [.cel .io w, .val x_high, .val v1.1, .val v1.2.1, .val v5.1, .val v5.2.1, .val dd])) (fun _ _ => (Nat.le_of_ble_eq_true rfl)) (fun _ _ _ => rfl)) (fun x_k => sm_P) (fun x_k => (sm_tup (sm_cons (c1 := 2) (c2 := 4) (sm_2 (c1 := 2) (c2 := 0) (sm_callI (c1 := 0) (c2 := 2) (wk_any _) (fun _ _ => ⟨_, rfl, fun _ => rfl⟩) (by decide) sim__law_take u1_len' (by decide) (sj_late (fun _ _ => ⟨_, _, rfl⟩) (sa'_val (c1 := 0) (c2 := 0) (sm_2z (sm_2z sm_C (sm_var fun _ _ => rfl)) sm_C) sa'_nil (Nat.le_of_ble_eq_true rfl))) (Nat.le_of_ble_eq_true rfl)) (sm_var fun _ _ => rfl) (Nat.le_of_ble_eq_true rfl)) (sm_cons (c1 := 4) (c2 := 0) (sm_2 (c1 := 4) (c2 := 0) (sm_tup (sm_cons (c1 := 0) (c2 := 4) (sm_var fun _ _ => rfl) (sm_cons (c1 := 2) (c2 := 2) (sm_2 (c1 := 0) (c2 := 2) sm_C (sm_callI (c1 := 0) (c2 := 2) (wk_any _) (fun _ _ => ⟨_, rfl, fun _ => rfl⟩) (by decide) sim__law_take u1_len' (by decide) (sj_late (fun _ _ => ⟨_, _, rfl⟩) (sa'_val (c1 := 0) (c2 := 0) sm_C sa'_nil (Nat.le_of_ble_eq_true rfl))) (Nat.le_of_ble_eq_true rfl)) (Nat.le_of_ble_eq_true rfl)) (sm_cons (c1 := 2) (c2 := 0) (sm_2 (c1 := 0) (c2 := 2) sm_C (sm_callI (c1 := 0) (c2 := 2) (wk_any _) (fun _ _ => ⟨_, rfl, fun _ => rfl⟩) (by decide) sim__law_take u1_len' (by decide) (sj_late (fun _ _ => ⟨_, _, rfl⟩) (sa'_val (c1 := 0) (c2 := 0) sm_C sa'_nil (Nat.le_of_ble_eq_true rfl))) (Nat.le_of_ble_eq_true rfl)) (Nat.le_of_ble_eq_true rfl)) sm_nil (Nat.le_of_ble_eq_true rfl)) (Nat.le_of_ble_eq_true rfl)) (Nat.le_of_ble_eq_true rfl))) (sm_var fun _ _ => rfl) (Nat.le_of_ble_eq_true rfl)) sm_nil (Nat.le_of_ble_eq_true rfl)) (Nat.le_of_ble_eq_true rfl)))) (fun _ _ => rfl) (fun _ _ => rfl) (fun _ js _ => ⟨js, rfl⟩) (fun _ _ js _ => ⟨js, rfl⟩) (Nat.le_of_ble_eq_true rfl))) sm_nil (Nat.le_of_ble_eq_true rfl)))))) (Nat.le_of_ble_eq_true rfl))) (Nat.le_of_ble_eq_true rfl)))
theorem sim__law_mean : SimF0 F__law_mean (u3 t__law_mean) := by
  unfold F__law_mean B__law_mean
  exact sf3 (fun x_values x_low x_high => (fun js w => [.val x_values, .val x_low, .val x_high, .no, .no, .no])) (fun _ _ _ _ _ => rfl) (fun x_values x_low x_high => by
    unfold t__law_mean
    exact (sb_set (c1 := 0) (c2 := 0) (fun x_some => (fun js w => [.val x_values, .val x_low, .val x_high, .val x_some, .no, .no])) (sm_cutz (sm_var fun _ _ => rfl) (sm_oint (sm_var fun _ _ => rfl)) (sm_oint (sm_2z (sm_var fun _ _ => rfl) sm_C))) (fun _ _ => (Nat.le_of_ble_eq_true rfl)) (fun _ _ _ => rfl) (fun x_some => (sb_rr (sb_ret (wk_any _) (sm_callD (wk_any _) sim__law_f u2_len (sm_consz (sm_B (sm_consz (sm_fz (sm_comp (c1 := 0) (c2 := 0) (c3 := 0) (c4 := 0) (fun js w => [.val x_values, .val x_low, .val x_high, .val x_some, .no, .no]) (fun (v1 : D × (D × (Unit))) => (fun js w => [.val x_values, .val x_low, .val x_high, .val x_some, .val v1.1, .val v1.2.1])) (sm_row (sm_var fun _ _ => rfl)) (fun _ => sg_tup' (fun _ => sg_cons' (c1 := 0) (c2 := 0) (f1 := fun (a2 : D) => (fun js w => [.val x_values, .val x_low, .val x_high, .val x_some, .val a2, .no])) (f2 := fun (a2 : D) (b2 : D × (Unit)) => (fun js w => [.val x_values, .val x_low, .val x_high, .val x_some, .val a2, .val b2.1])) (fun _ => sg_v (fun dd => (fun js w => [.val x_values, .val x_low, .val x_high, .val x_some, .val dd, .no])) (fun _ _ => (Nat.le_of_ble_eq_true rfl)) (fun _ _ _ => rfl)) (fun a2 => (fun _ => sg_cons' (c1 := 0) (c2 := 0) (f1 := fun (a3 : D) => (fun js w => [.val x_values, .val x_low, .val x_high, .val x_some, .val a2, .val a3])) (f2 := fun (a3 : D) (b3 : Unit) => (fun js w => [.val x_values, .val x_low, .val x_high, .val x_some, .val a2, .val a3])) (fun _ => sg_v (fun dd => (fun js w => [.val x_values, .val x_low, .val x_high, .val x_some, .val a2, .val dd])) (fun _ _ => (Nat.le_of_ble_eq_true rfl)) (fun _ _ _ => rfl)) (fun a3 => (fun _ => sg_nil')) (Nat.le_of_ble_eq_true rfl))) (Nat.le_of_ble_eq_true rfl))) (fun v1 => sm_P) (fun v1 => (sm_2z (sm_var fun _ _ => rfl) (sm_var fun _ _ => rfl))) (fun _ _ => rfl) (fun _ _ => rfl) (fun _ js _ => ⟨js, rfl⟩) (fun _ _ js _ => ⟨js, rfl⟩) (Nat.le_of_ble_eq_true rfl))) sm_nil)) (sm_consz (sm_B (sm_consz (sm_fz (sm_comp (c1 := 0) (c2 := 0) (c3 := 0) (c4 := 0) (fun js w => [.val x_values, .val x_low, .val x_high, .val x_some, .no, .no]) (fun (v5 : D × (D × (Unit))) => (fun js w => [.val x_values, .val x_low, .val x_high, .val x_some, .val v5.1, .val v5.2.1])) (sm_row (sm_var fun _ _ => rfl)) (fun _ => sg_tup' (fun _ => sg_cons' (c1 := 0) (c2 := 0) (f1 := fun (a6 : D) => (fun js w => [.val x_values, .val x_low, .val x_high, .val x_some, .val a6, .no])) (f2 := fun (a6 : D) (b6 : D × (Unit)) => (fun js w => [.val x_values, .val x_low, .val x_high, .val x_some, .val a6, .val b6.1])) (fun _ => sg_v (fun dd => (fun js w => [.val x_values, .val x_low, .val x_high, .val x_some, .val dd, .no])) (fun _ _ => (Nat.le_of_ble_eq_true rfl)) (fun _ _ _ => rfl)) (fun a6 => (fun _ => sg_cons' (c1 := 0) (c2 := 0) (f1 := fun (a7 : D) => (fun js w => [.val x_values, .val x_low, .val x_high, .val x_some, .val a6, .val a7])) (f2 := fun (a7 : D) (b7 : Unit) => (fun js w => [.val x_values, .val x_low, .val x_high, .val x_some, .val a6, .val a7])) (fun _ => sg_v (fun dd => (fun js w => [.val x_values, .val x_low, .val x_high, .val x_some, .val a6, .val dd])) (fun _ _ => (Nat.le_of_ble_eq_true rfl)) (fun _ _ _ => rfl)) (fun a7 => (fun _ => sg_nil')) (Nat.le_of_ble_eq_true rfl))) (Nat.le_of_ble_eq_true rfl))) (fun v5 => sm_P) (fun v5 => (sm_var fun _ _ => rfl)) (fun _ _ => rfl) (fun _ _ => rfl) (fun _ js _ => ⟨js, rfl⟩) (fun _ _ js _ => ⟨js, rfl⟩) (Nat.le_of_ble_eq_true rfl))) sm_nil)) sm_nil)))))) (Nat.le_of_ble_eq_true rfl)))
theorem sim__law_rising : SimF0 F__law_rising (u1 t__law_rising) := by
  unfold F__law_rising B__law_rising
  exact sf1 (fun x_values => (fun js w => [.val x_values, .no, .no, .no, .no, .no])) (fun _ _ _ => rfl) (fun x_values => by
    unfold t__law_rising
    exact (sb_parN (c1 := 0) (c2 := 0) (fun v1 => (fun js w => [.val x_values, .no, .val v1.1, .cel .own v1.2.1, .no, .no])) (sp'_val (c1 := 0) (c2 := 0) (sm_B (sm_consz (sm_var fun _ _ => rfl) sm_nil)) (sp'_new (c1 := 0) (c2 := 0) (sm_lst sm_nil) sp'_nil (Nat.le_of_ble_eq_true rfl)) (Nat.le_of_ble_eq_true rfl)) (fun _ _ _ => rfl) (fun v1 => (sb_for (c1 := 0) (c2 := 0) (c3 := 0) (c4 := 0) (fun (s2 : List D) => (fun js w => [.val x_values, oe (js.v.getD 1 none), .val v1.1, .cel .own s2, .no, .no])) (fun (s2 : List D) (x_place : D) => (fun js w => [.val x_values, .val x_place, .val v1.1, .cel .own s2, .no, .no])) v1.2.1 (sm_iOf (sm_consz (sm_var fun _ _ => rfl) sm_nil)) (wk (fun js w => ⟨[], []⟩) (fun _ _ => rfl)) (fun s2 => (fun _ => sg_v (fun dd => (fun js w => [.val x_values, .val dd, .val v1.1, .cel .own s2, .no, .no])) (fun _ _ => (Nat.le_of_ble_eq_true rfl)) (fun _ _ _ => rfl))) (fun s2 x_place => (sb_last (sb_app (c1 := 0) (c2 := 0) (fun x_found => (fun js w => [.val x_values, .val x_place, .val v1.1, .cel .own x_found, .no, .no])) (sm_callD (wk_any _) sim__law_most u1_len (sm_consz (sm_fz (sm_comp (c1 := 0) (c2 := 0) (c3 := 0) (c4 := 0) (fun js w => [.val x_values, .val x_place, .val v1.1, .cel .own s2, .no, .no]) (fun (x_a : D) => (fun js w => [.val x_values, .val x_place, .val v1.1, .cel .own s2, .val x_a, .no])) (sm_iOf (sm_consz (sm_2z (sm_var fun _ _ => rfl) sm_C) sm_nil)) (fun _ => sg_v (fun dd => (fun js w => [.val x_values, .val x_place, .val v1.1, .cel .own s2, .val dd, .no])) (fun _ _ => (Nat.le_of_ble_eq_true rfl)) (fun _ _ _ => rfl)) (fun x_a => sm_P) (fun x_a => (sm_callD (wk_any _) sim__law_least u1_len (sm_consz (sm_fz (sm_comp (c1 := 0) (c2 := 0) (c3 := 0) (c4 := 0) (fun js w => [.val x_values, .val x_place, .val v1.1, .cel .own s2, .val x_a, .no]) (fun (x_b : D) => (fun js w => [.val x_values, .val x_place, .val v1.1, .cel .own s2, .val x_a, .val x_b])) (sm_iOf (sm_consz (sm_var fun _ _ => rfl) (sm_consz (sm_var fun _ _ => rfl) sm_nil))) (fun _ => sg_v (fun dd => (fun js w => [.val x_values, .val x_place, .val v1.1, .cel .own s2, .val x_a, .val dd])) (fun _ _ => (Nat.le_of_ble_eq_true rfl)) (fun _ _ _ => rfl)) (fun x_b => sm_P) (fun x_b => (sm_callD (wk_any _) sim__law_mean u3_len (sm_consz (sm_var fun _ _ => rfl) (sm_consz (sm_var fun _ _ => rfl) (sm_consz (sm_var fun _ _ => rfl) sm_nil))))) (fun _ _ => rfl) (fun _ _ => rfl) (fun _ js _ => ⟨js, rfl⟩) (fun _ _ js _ => ⟨js, rfl⟩) (Nat.le_of_ble_eq_true rfl))) sm_nil))) (fun _ _ => rfl) (fun _ _ => rfl) (fun _ js _ => ⟨js, rfl⟩) (fun _ _ js _ => ⟨js, rfl⟩) (Nat.le_of_ble_eq_true rfl))) sm_nil)) (fun _ _ => rfl) (fun _ _ _ => rfl) (fun x_found => (sb_nx x_found (Or.inl rfl) (wk (fun js w => ⟨[none, some x_place, none, none, none, none], []⟩) (fun _ _ => rfl)))) (Nat.le_of_ble_eq_true rfl)))) (fun s3 => (sb_rr (sb_ret (wk_any _) (sm_lend (fun js w => [.val x_values, oe (js.v.getD 1 none), .val v1.1, .val (.lst s3), .no, .no]) (fun _ _ => rfl) (fun _ _ => rfl) (fun _ _ => rfl) (fun _ _ => rfl) (sm_B (sm_consz (sm_var fun _ _ => rfl) sm_nil)))))) (Nat.le_of_ble_eq_true rfl))) (Nat.le_of_ble_eq_true rfl)))
theorem sim__law_right : SimFW 4 0 F__law_right (u1 t__law_right) := by
  unfold F__law_right B__law_right
  exact sfI1_0 (cc := 4) (g := (fun js w => [.cel .io w, js.a.getD 1 .no, js.a.getD 2 .no, js.a.getD 3 .no, js.a.getD 4 .no, js.a.getD 5 .no, js.a.getD 6 .no, js.a.getD 7 .no, js.a.getD 8 .no, js.a.getD 9 .no, js.a.getD 10 .no, js.a.getD 11 .no, js.a.getD 12 .no, js.a.getD 13 .no, js.a.getD 14 .no])) (fun _ _ => rfl) (fun x_values => (fun js w => [.cel .io w, .val x_values, .no, .no, .no, .no, .no, .no, .no, .no, .no, .no, .no, .no, .no])) (fun _ _ _ => rfl) (fun x_values => by
    unfold t__law_right
    exact (sb_par2 (c1 := 0) (c2 := 4) (fun x_due x_many => (fun js w => [.cel .io w, .val x_values, .no, .no, .val x_due, .val x_many, .no, .no, .no, .no, .no, .no, .no, .no, .no])) (sm_consz (sm_callD (wk (fun js w => ⟨[], [.no, .val x_values, .no, .no, .no, .no, .no, .no, .no, .no, .no, .no, .no, .no, .no]⟩) (fun _ _ => rfl)) sim__law_rising u1_len (sm_consz (sm_var fun _ _ => rfl) sm_nil)) (sm_consz (sm_B (sm_consz (sm_var fun _ _ => rfl) sm_nil)) sm_nil)) (fun _ _ => ⟨(Nat.le_of_ble_eq_true rfl), (Nat.le_of_ble_eq_true rfl)⟩) (fun _ _ _ _ => rfl) (fun x_due x_many => (sb_ifseq (sb_if (c1 := 0) (c2 := 0) (c3 := 4) (sm_tNot (sm_tru (sm_callD (wk (fun js w => ⟨[], [.no, .val x_values, .no, .no, .val x_due, .val x_many, .no, .no, .no, .no, .no, .no, .no, .no, .no]⟩) (fun _ _ => rfl)) (sim__law_alike 10) u2_len (sm_consz (sm_tup (sm_consz (sm_callD (wk (fun js w => ⟨[], [.no, .val x_values, .no, .no, .val x_due, .val x_many, .no, .no, .no, .no, .no, .no, .no, .no, .no]⟩) (fun _ _ => rfl)) sim_rising u1_len (sm_consz (sm_var fun _ _ => rfl) sm_nil)) (sm_consz (sm_callKw (wk (fun js w => ⟨[], [.no, .val x_values, .no, .no, .val x_due, .val x_many, .no, .no, .no, .no, .no, .no, .no, .no, .no]⟩) (fun _ _ => rfl)) sim_rising u1_len (sm_consz (sm_var fun _ _ => rfl) sm_nil)) sm_nil))) (sm_consz (sm_tup (sm_consz (sm_var fun _ _ => rfl) (sm_consz (sm_var fun _ _ => rfl) sm_nil))) sm_nil))))) (sb_rr (sb_eq ret_seq (sb_ret (wk (fun js w => ⟨[], [.no, .val x_values, .no, .no, .val x_due, .val x_many, .no, .no, .no, .no, .no, .no, .no, .no, .no]⟩) (fun _ _ => rfl)) sm_C))) (sb_nxseq (sb_forX (c1 := 0) (c2 := 0) (c3 := 0) (c4 := 4) (fun (s1 : Unit) => (fun js w => [.cel .io w, .val x_values, oe (js.v.getD 2 none), .no, .val x_due, .val x_many, oe (js.v.getD 6 none), .no, .no, .no, .no, .no, .no, .no, .no])) (fun (s1 : Unit) (x_place : D) => (fun js w => [.cel .io w, .val x_values, .val x_place, .no, .val x_due, .val x_many, oe (js.v.getD 6 none), .no, .no, .no, .no, .no, .no, .no, .no])) () (fun d => d) (fun _ => rfl) (fun _ => Or.inl rfl) (fun _ => wk_refl _) (sm_iOf (sm_consz (sm_var fun _ _ => rfl) sm_nil)) (wk (fun js w => ⟨[], []⟩) (fun _ _ => rfl)) (fun s1 => (fun _ => sg_v (fun dd => (fun js w => [.cel .io w, .val x_values, .val dd, .no, .val x_due, .val x_many, oe (js.v.getD 6 none), .no, .no, .no, .no, .no, .no, .no, .no])) (fun _ _ => (Nat.le_of_ble_eq_true rfl)) (fun _ _ _ => rfl))) (fun s1 x_place => (sb_set (c1 := 0) (c2 := 0) (fun x_other => (fun js w => [.cel .io w, .val x_values, .val x_place, .no, .val x_due, .val x_many, .val x_other, .no, .no, .no, .no, .no, .no, .no, .no])) (sm_callD (wk (fun js w => ⟨[], [.no, .val x_values, .val x_place, .no, .val x_due, .val x_many, oe (js.v.getD 6 none), .no, .no, .no, .no, .no, .no, .no, .no]⟩) (fun _ _ => rfl)) sim__law_least u1_len (sm_consz (sm_fz (sm_comp (c1 := 0) (c2 := 0) (c3 := 0) (c4 := 0) (fun js w => [.cel .io w, .val x_values, .val x_place, .no, .val x_due, .val x_many, oe (js.v.getD 6 none), .no, .no, .no, .no, .no, .no, .no, .no]) (fun (x_b : D) => (fun js w => [.cel .io w, .val x_values, .val x_place, .no, .val x_due, .val x_many, oe (js.v.getD 6 none), .no, .no, .no, .no, .no, .val x_b, .no, .no])) (sm_iOf (sm_consz (sm_var fun _ _ => rfl) (sm_consz (sm_var fun _ _ => rfl) sm_nil))) (fun _ => sg_v (fun dd => (fun js w => [.cel .io w, .val x_values, .val x_place, .no, .val x_due, .val x_many, oe (js.v.getD 6 none), .no, .no, .no, .no, .no, .val dd, .no, .no])) (fun _ _ => (Nat.le_of_ble_eq_true rfl)) (fun _ _ _ => rfl)) (fun x_b => sm_P) (fun x_b => (sm_callD (wk_any _) sim__law_most u1_len (sm_consz (sm_fz (sm_comp (c1 := 0) (c2 := 0) (c3 := 0) (c4 := 0) (fun js w => [.cel .io w, .val x_values, .val x_place, .no, .val x_due, .val x_many, oe (js.v.getD 6 none), .no, .no, .no, .no, .no, .val x_b, .no, .no]) (fun (x_a : D) => (fun js w => [.cel .io w, .val x_values, .val x_place, .no, .val x_due, .val x_many, oe (js.v.getD 6 none), .no, .no, .no, .no, .no, .val x_b, .no, .val x_a])) (sm_iOf (sm_consz (sm_2z (sm_var fun _ _ => rfl) sm_C) sm_nil)) (fun _ => sg_v (fun dd => (fun js w => [.cel .io w, .val x_values, .val x_place, .no, .val x_due, .val x_many, oe (js.v.getD 6 none), .no, .no, .no, .no, .no, .val x_b, .no, .val dd])) (fun _ _ => (Nat.le_of_ble_eq_true rfl)) (fun _ _ _ => rfl)) (fun x_a => sm_P) (fun x_a => (sm_callD (wk_any _) sim__law_mean u3_len (sm_consz (sm_var fun _ _ => rfl) (sm_consz (sm_var fun _ _ => rfl) (sm_consz (sm_var fun _ _ => rfl) sm_nil))))) (fun _ _ => rfl) (fun _ _ => rfl) (fun _ js _ => ⟨js, rfl⟩) (fun _ _ js _ => ⟨js, rfl⟩) (Nat.le_of_ble_eq_true rfl))) sm_nil))) (fun _ _ => rfl) (fun _ _ => rfl) (fun _ js _ => ⟨js, rfl⟩) (fun _ _ js _ => ⟨js, rfl⟩) (Nat.le_of_ble_eq_true rfl))) sm_nil)) (fun _ _ => (Nat.le_of_ble_eq_true rfl)) (fun _ _ _ => rfl) (fun x_other => (sb_last (sb_ifseq (sb_if (c1 := 0) (c2 := 0) (c3 := 0) (sm_tOrz (sm_mT (sm_2z (sm_var fun _ _ => rfl) (sm_2z (sm_var fun _ _ => rfl) (sm_var fun _ _ => rfl)))) (sm_tAndz (sm_mT (sm_2z (sm_var fun _ _ => rfl) sm_C)) (sm_tru (sm_callD (wk (fun js w => ⟨[], [.no, .val x_values, .val x_place, .no, .val x_due, .val x_many, .val x_other, .no, .no, .no, .no, .no, .no, .no, .no]⟩) (fun _ _ => rfl)) sim__law_below u2_len (sm_consz (sm_2z (sm_var fun _ _ => rfl) (sm_var fun _ _ => rfl)) (sm_consz (sm_2z (sm_var fun _ _ => rfl) (sm_2z (sm_var fun _ _ => rfl) sm_C)) sm_nil)))))) (sb_eq ret_seq (sb_retX (fun _ => rfl) (fun _ => (wk (fun js w => ⟨[], [.no, .val x_values, .val x_place, .no, .val x_due, .val x_many, .val x_other, .no, .no, .no, .no, .no, .no, .no, .no]⟩) (fun _ _ => rfl))) sm_C)) (sb_nxseq (sb_nx (Lx.go ()) (Or.inl rfl) (wk (fun js w => ⟨[none, none, some x_place, none, none, none, some x_other, none, none, none, none, none, none, none, none], []⟩) (fun _ _ => rfl)))) (Nat.le_of_ble_eq_true rfl))))) (Nat.le_of_ble_eq_true rfl))) (fun s2 => (sb_set (c1 := 0) (c2 := 4) (fun x_own => (fun js w => [.cel .io w, .val x_values, oe (js.v.getD 2 none), .val x_own, .val x_due, .val x_many, oe (js.v.getD 6 none), .no, .no, .no, .no, .no, .no, .no, .no])) (sm_fz (sm_comp (c1 := 0) (c2 := 0) (c3 := 0) (c4 := 0) (fun js w => [.cel .io w, .val x_values, oe (js.v.getD 2 none), .no, .val x_due, .val x_many, oe (js.v.getD 6 none), .no, .no, .no, .no, .no, .no, .no, .no]) (fun (v3 : D × (D × (Unit))) => (fun js w => [.cel .io w, .val x_values, oe (js.v.getD 2 none), .no, .val x_due, .val x_many, oe (js.v.getD 6 none), .no, .no, .no, .val v3.1, .val v3.2.1, .no, .no, .no])) (sm_row (sm_var fun _ _ => rfl)) (fun _ => sg_tup' (fun _ => sg_cons' (c1 := 0) (c2 := 0) (f1 := fun (a4 : D) => (fun js w => [.cel .io w, .val x_values, oe (js.v.getD 2 none), .no, .val x_due, .val x_many, oe (js.v.getD 6 none), .no, .no, .no, .val a4, .no, .no, .no, .no])) (f2 := fun (a4 : D) (b4 : D × (Unit)) => (fun js w => [.cel .io w, .val x_values, oe (js.v.getD 2 none), .no, .val x_due, .val x_many, oe (js.v.getD 6 none), .no, .no, .no, .val a4, .val b4.1, .no, .no, .no])) (fun _ => sg_v (fun dd => (fun js w => [.cel .io w, .val x_values, oe (js.v.getD 2 none), .no, .val x_due, .val x_many, oe (js.v.getD 6 none), .no, .no, .no, .val dd, .no, .no, .no, .no])) (fun _ _ => (Nat.le_of_ble_eq_true rfl)) (fun _ _ _ => rfl)) (fun a4 => (fun _ => sg_cons' (c1 := 0) (c2 := 0) (f1 := fun (a5 : D) => (fun js w => [.cel .io w, .val x_values, oe (js.v.getD 2 none), .no, .val x_due, .val x_many, oe (js.v.getD 6 none), .no, .no, .no, .val a4, .val a5, .no, .no, .no])) (f2 := fun (a5 : D) (b5 : Unit) => (fun js w => [.cel .io w, .val x_values, oe (js.v.getD 2 none), .no, .val x_due, .val x_many, oe (js.v.getD 6 none), .no, .no, .no, .val a4, .val a5, .no, .no, .no])) (fun _ => sg_v (fun dd => (fun js w => [.cel .io w, .val x_values, oe (js.v.getD 2 none), .no, .val x_due, .val x_many, oe (js.v.getD 6 none), .no, .no, .no, .val a4, .val dd, .no, .no, .no])) (fun _ _ => (Nat.le_of_ble_eq_true rfl)) (fun _ _ _ => rfl)) (fun a5 => (fun _ => sg_nil')) (Nat.le_of_ble_eq_true rfl))) (Nat.le_of_ble_eq_true rfl))) (fun v3 => sm_P) (fun v3 => (sm_var fun _ _ => rfl)) (fun _ _ => rfl) (fun _ _ => rfl) (fun _ js _ => ⟨js, rfl⟩) (fun _ _ js _ => ⟨js, rfl⟩) (Nat.le_of_ble_eq_true rfl))) (fun _ _ => (Nat.le_of_ble_eq_true rfl)) (fun _ _ _ => rfl) (fun x_own => (sb_ifseq (sb_if (c1 := 0) (c2 := 0) (c3 := 4) (sm_mT (sm_2z (sm_2z (sm_var fun _ _ => rfl) (sm_B (sm_consz (sm_fz (sm_comp (c1 := 0) (c2 := 0) (c3 := 0) (c4 := 0) (fun js w => [.cel .io w, .val x_values, oe (js.v.getD 2 none), .val x_own, .val x_due, .val x_many, oe (js.v.getD 6 none), .no, .no, .no, .no, .no, .no, .no, .no]) (fun (x_x : D) => (fun js w => [.cel .io w, .val x_values, oe (js.v.getD 2 none), .val x_own, .val x_due, .val x_many, oe (js.v.getD 6 none), .no, .no, .no, .val x_x, .no, .no, .no, .no])) (sm_row (sm_var fun _ _ => rfl)) (fun _ => sg_v (fun dd => (fun js w => [.cel .io w, .val x_values, oe (js.v.getD 2 none), .val x_own, .val x_due, .val x_many, oe (js.v.getD 6 none), .no, .no, .no, .val dd, .no, .no, .no, .no])) (fun _ _ => (Nat.le_of_ble_eq_true rfl)) (fun _ _ _ => rfl)) (fun x_x => sm_P) (fun x_x => (sm_tup (sm_consz (sm_var fun _ _ => rfl) (sm_consz sm_C sm_nil)))) (fun _ _ => rfl) (fun _ _ => rfl) (fun _ js _ => ⟨js, rfl⟩) (fun _ _ js _ => ⟨js, rfl⟩) (Nat.le_of_ble_eq_true rfl))) sm_nil))) (sm_2z (sm_var fun _ _ => rfl) (sm_fz (sm_lB (sm_consz (sm_var fun _ _ => rfl) sm_nil)))))) (sb_rr (sb_eq ret_seq (sb_ret (wk (fun js w => ⟨[], [.no, .val x_values, oe (js.v.getD 2 none), .val x_own, .val x_due, .val x_many, oe (js.v.getD 6 none), .no, .no, .no, .no, .no, .no, .no, .no]⟩) (fun _ _ => rfl)) sm_C))) (sb_nxseq (sb_asg (c1 := 4) (c2 := 0) (c3 := 0) (f2 := fun (v7 : D × (D × (Unit))) => (fun js w => [.cel .io w, .val x_values, oe (js.v.getD 2 none), .val x_own, .val x_due, .val x_many, oe (js.v.getD 6 none), .val v7.1, .val v7.2.1, .no, .no, .no, .no, .no, .no])) (sm_tup (sm_cons (c1 := 2) (c2 := 2) (sm_2 (c1 := 2) (c2 := 0) (sm_callI (c1 := 0) (c2 := 2) (wk (fun js w => ⟨[], [.no, .val x_values, oe (js.v.getD 2 none), .val x_own, .val x_due, .val x_many, oe (js.v.getD 6 none), .no, .no, .no, .no, .no, .no, .no, .no]⟩) (fun _ _ => rfl)) (fun _ _ => ⟨_, rfl, fun _ => rfl⟩) (by decide) sim__law_take u1_len' (by decide) (sj_late (fun _ _ => ⟨_, _, rfl⟩) (sa'_val (c1 := 0) (c2 := 0) sm_C sa'_nil (Nat.le_of_ble_eq_true rfl))) (Nat.le_of_ble_eq_true rfl)) sm_C (Nat.le_of_ble_eq_true rfl)) (sm_cons (c1 := 2) (c2 := 0) (sm_2 (c1 := 0) (c2 := 2) sm_C (sm_callI (c1 := 0) (c2 := 2) (wk (fun js w => ⟨[], [.no, .val x_values, oe (js.v.getD 2 none), .val x_own, .val x_due, .val x_many, oe (js.v.getD 6 none), .no, .no, .no, .no, .no, .no, .no, .no]⟩) (fun _ _ => rfl)) (fun _ _ => ⟨_, rfl, fun _ => rfl⟩) (by decide) sim__law_take u1_len' (by decide) (sj_late (fun _ _ => ⟨_, _, rfl⟩) (sa'_val (c1 := 0) (c2 := 0) sm_C sa'_nil (Nat.le_of_ble_eq_true rfl))) (Nat.le_of_ble_eq_true rfl)) (Nat.le_of_ble_eq_true rfl)) sm_nil (Nat.le_of_ble_eq_true rfl)) (Nat.le_of_ble_eq_true rfl))) (fun _ => sg_tup' (fun _ => sg_cons' (c1 := 0) (c2 := 0) (f1 := fun (a8 : D) => (fun js w => [.cel .io w, .val x_values, oe (js.v.getD 2 none), .val x_own, .val x_due, .val x_many, oe (js.v.getD 6 none), .val a8, .no, .no, .no, .no, .no, .no, .no])) (f2 := fun (a8 : D) (b8 : D × (Unit)) => (fun js w => [.cel .io w, .val x_values, oe (js.v.getD 2 none), .val x_own, .val x_due, .val x_many, oe (js.v.getD 6 none), .val a8, .val b8.1, .no, .no, .no, .no, .no, .no])) (fun _ => sg_v (fun dd => (fun js w => [.cel .io w, .val x_values, oe (js.v.getD 2 none), .val x_own, .val x_due, .val x_many, oe (js.v.getD 6 none), .val dd, .no, .no, .no, .no, .no, .no, .no])) (fun _ _ => (Nat.le_of_ble_eq_true rfl)) (fun _ _ _ => rfl)) (fun a8 => (fun _ => sg_cons' (c1 := 0) (c2 := 0) (f1 := fun (a9 : D) => (fun js w => [.cel .io w, .val x_values, oe (js.v.getD 2 none), .val x_own, .val x_due, .val x_many, oe (js.v.getD 6 none), .val a8, .val a9, .no, .no, .no, .no, .no, .no])) (f2 := fun (a9 : D) (b9 : Unit) => (fun js w => [.cel .io w, .val x_values, oe (js.v.getD 2 none), .val x_own, .val x_due, .val x_many, oe (js.v.getD 6 none), .val a8, .val a9, .no, .no, .no, .no, .no, .no])) (fun _ => sg_v (fun dd => (fun js w => [.cel .io w, .val x_values, oe (js.v.getD 2 none), .val x_own, .val x_due, .val x_many, oe (js.v.getD 6 none), .val a8, .val dd, .no, .no, .no, .no, .no, .no])) (fun _ _ => (Nat.le_of_ble_eq_true rfl)) (fun _ _ _ => rfl)) (fun a9 => (fun _ => sg_nil')) (Nat.le_of_ble_eq_true rfl))) (Nat.le_of_ble_eq_true rfl))) (fun v7 => (sb_ifseq (sb_if (c1 := 0) (c2 := 0) (c3 := 0) (sm_mT (sm_2z (sm_B (sm_consz (sm_fz (sm_comp (c1 := 0) (c2 := 0) (c3 := 0) (c4 := 0) (fun js w => [.cel .io w, .val x_values, oe (js.v.getD 2 none), .val x_own, .val x_due, .val x_many, oe (js.v.getD 6 none), .val v7.1, .val v7.2.1, .no, .no, .no, .no, .no, .no]) (fun (x_x_2 : D) => (fun js w => [.cel .io w, .val x_values, oe (js.v.getD 2 none), .val x_own, .val x_due, .val x_many, oe (js.v.getD 6 none), .val v7.1, .val v7.2.1, .no, .val x_x_2, .no, .no, .no, .no])) (sm_row (sm_var fun _ _ => rfl)) (fun _ => sg_v (fun dd => (fun js w => [.cel .io w, .val x_values, oe (js.v.getD 2 none), .val x_own, .val x_due, .val x_many, oe (js.v.getD 6 none), .val v7.1, .val v7.2.1, .no, .val dd, .no, .no, .no, .no])) (fun _ _ => (Nat.le_of_ble_eq_true rfl)) (fun _ _ _ => rfl)) (fun x_x_2 => sm_P) (fun x_x_2 => (sm_B (sm_consz (sm_var fun _ _ => rfl) sm_nil))) (fun _ _ => rfl) (fun _ _ => rfl) (fun _ js _ => ⟨js, rfl⟩) (fun _ _ js _ => ⟨js, rfl⟩) (Nat.le_of_ble_eq_true rfl))) sm_nil)) sm_C)) (sb_assoc (sb_set (c1 := 0) (c2 := 0) (fun x_more => (fun js w => [.cel .io w, .val x_values, oe (js.v.getD 2 none), .val x_own, .val x_due, .val x_many, oe (js.v.getD 6 none), .val v7.1, .val v7.2.1, .val x_more, .no, .no, .no, .no, .no])) (sm_callD (wk (fun js w => ⟨[], [.no, .val x_values, oe (js.v.getD 2 none), .val x_own, .val x_due, .val x_many, oe (js.v.getD 6 none), .val v7.1, .val v7.2.1, .no, .no, .no, .no, .no, .no]⟩) (fun _ _ => rfl)) sim_rising u1_len (sm_consz (sm_B (sm_consz (sm_fz (sm_comp (c1 := 0) (c2 := 0) (c3 := 0) (c4 := 0) (fun js w => [.cel .io w, .val x_values, oe (js.v.getD 2 none), .val x_own, .val x_due, .val x_many, oe (js.v.getD 6 none), .val v7.1, .val v7.2.1, .no, .no, .no, .no, .no, .no]) (fun (v11 : D × (D × (Unit))) => (fun js w => [.cel .io w, .val x_values, oe (js.v.getD 2 none), .val x_own, .val x_due, .val x_many, oe (js.v.getD 6 none), .val v7.1, .val v7.2.1, .no, .val v11.1, .val v11.2.1, .no, .no, .no])) (sm_row (sm_var fun _ _ => rfl)) (fun _ => sg_tup' (fun _ => sg_cons' (c1 := 0) (c2 := 0) (f1 := fun (a12 : D) => (fun js w => [.cel .io w, .val x_values, oe (js.v.getD 2 none), .val x_own, .val x_due, .val x_many, oe (js.v.getD 6 none), .val v7.1, .val v7.2.1, .no, .val a12, .no, .no, .no, .no])) (f2 := fun (a12 : D) (b12 : D × (Unit)) => (fun js w => [.cel .io w, .val x_values, oe (js.v.getD 2 none), .val x_own, .val x_due, .val x_many, oe (js.v.getD 6 none), .val v7.1, .val v7.2.1, .no, .val a12, .val b12.1, .no, .no, .no])) (fun _ => sg_v (fun dd => (fun js w => [.cel .io w, .val x_values, oe (js.v.getD 2 none), .val x_own, .val x_due, .val x_many, oe (js.v.getD 6 none), .val v7.1, .val v7.2.1, .no, .val dd, .no, .no, .no, .no])) (fun _ _ => (Nat.le_of_ble_eq_true rfl)) (fun _ _ _ => rfl)) (fun a12 => (fun _ => sg_cons' (c1 := 0) (c2 := 0) (f1 := fun (a13 : D) => (fun js w => [.cel .io w, .val x_values, oe (js.v.getD 2 none), .val x_own, .val x_due, .val x_many, oe (js.v.getD 6 none), .val v7.1, .val v7.2.1, .no, .val a12, .val a13, .no, .no, .no])) (f2 := fun (a13 : D) (b13 : Unit) => (fun js w => [.cel .io w, .val x_values, oe (js.v.getD 2 none), .val x_own, .val x_due, .val x_many, oe (js.v.getD 6 none), .val v7.1, .val v7.2.1, .no, .val a12, .val a13, .no, .no, .no])) (fun _ => sg_v (fun dd => (fun js w => [.cel .io w, .val x_values, oe (js.v.getD 2 none), .val x_own, .val x_due, .val x_many, oe (js.v.getD 6 none), .val v7.1, .val v7.2.1, .no, .val a12, .val dd, .no, .no, .no])) (fun _ _ => (Nat.le_of_ble_eq_true rfl)) (fun _ _ _ => rfl)) (fun a13 => (fun _ => sg_nil')) (Nat.le_of_ble_eq_true rfl))) (Nat.le_of_ble_eq_true rfl))) (fun v11 => sm_P) (fun v11 => (sm_tup (sm_consz (sm_2z (sm_2z (sm_var fun _ _ => rfl) (sm_var fun _ _ => rfl)) (sm_var fun _ _ => rfl)) (sm_consz (sm_var fun _ _ => rfl) sm_nil)))) (fun _ _ => rfl) (fun _ _ => rfl) (fun _ js _ => ⟨js, rfl⟩) (fun _ _ js _ => ⟨js, rfl⟩) (Nat.le_of_ble_eq_true rfl))) sm_nil)) sm_nil)) (fun _ _ => (Nat.le_of_ble_eq_true rfl)) (fun _ _ _ => rfl) (fun x_more => (sb_ifseq (sb_if (c1 := 0) (c2 := 0) (c3 := 0) (sm_mT (sm_2z (sm_var fun _ _ => rfl) (sm_B (sm_consz (sm_fz (sm_comp (c1 := 0) (c2 := 0) (c3 := 0) (c4 := 0) (fun js w => [.cel .io w, .val x_values, oe (js.v.getD 2 none), .val x_own, .val x_due, .val x_many, oe (js.v.getD 6 none), .val v7.1, .val v7.2.1, .val x_more, .no, .no, .no, .no, .no]) (fun (x_each : D) => (fun js w => [.cel .io w, .val x_values, oe (js.v.getD 2 none), .val x_own, .val x_due, .val x_many, oe (js.v.getD 6 none), .val v7.1, .val v7.2.1, .val x_more, .no, .no, .no, .val x_each, .no])) (sm_row (sm_var fun _ _ => rfl)) (fun _ => sg_v (fun dd => (fun js w => [.cel .io w, .val x_values, oe (js.v.getD 2 none), .val x_own, .val x_due, .val x_many, oe (js.v.getD 6 none), .val v7.1, .val v7.2.1, .val x_more, .no, .no, .no, .val dd, .no])) (fun _ _ => (Nat.le_of_ble_eq_true rfl)) (fun _ _ _ => rfl)) (fun x_each => sm_P) (fun x_each => (sm_callD (wk_any _) sim__law_plus u2_len (sm_consz (sm_callD (wk_any _) sim__law_by u2_len (sm_consz (sm_var fun _ _ => rfl) (sm_consz (sm_tup (sm_consz (sm_var fun _ _ => rfl) (sm_consz sm_C sm_nil))) sm_nil))) (sm_consz (sm_tup (sm_consz (sm_var fun _ _ => rfl) (sm_consz sm_C sm_nil))) sm_nil)))) (fun _ _ => rfl) (fun _ _ => rfl) (fun _ js _ => ⟨js, rfl⟩) (fun _ _ js _ => ⟨js, rfl⟩) (Nat.le_of_ble_eq_true rfl))) sm_nil)))) (sb_rr (sb_eq ret_seq (sb_ret (wk (fun js w => ⟨[], [.no, .val x_values, oe (js.v.getD 2 none), .val x_own, .val x_due, .val x_many, oe (js.v.getD 6 none), .val v7.1, .val v7.2.1, .val x_more, .no, .no, .no, .no, .no]⟩) (fun _ _ => rfl)) sm_C))) (sb_nxseq (sb_rr (sb_ret (wk (fun js w => ⟨[], [.no, .val x_values, oe (js.v.getD 2 none), .val x_own, .val x_due, .val x_many, oe (js.v.getD 6 none), .val v7.1, .val v7.2.1, .val x_more, .no, .no, .no, .no, .no]⟩) (fun _ _ => rfl)) (sm_orz (sm_2z (sm_B (sm_consz (sm_fz (sm_comp (c1 := 0) (c2 := 0) (c3 := 0) (c4 := 0) (fun js w => [.cel .io w, .val x_values, oe (js.v.getD 2 none), .val x_own, .val x_due, .val x_many, oe (js.v.getD 6 none), .val v7.1, .val v7.2.1, .val x_more, .no, .no, .no, .no, .no]) (fun (v15 : D × (D × (Unit))) => (fun js w => [.cel .io w, .val x_values, oe (js.v.getD 2 none), .val x_own, .val x_due, .val x_many, oe (js.v.getD 6 none), .val v7.1, .val v7.2.1, .val x_more, .val v15.1, .val v15.2.1, .no, .no, .no])) (sm_row (sm_var fun _ _ => rfl)) (fun _ => sg_tup' (fun _ => sg_cons' (c1 := 0) (c2 := 0) (f1 := fun (a16 : D) => (fun js w => [.cel .io w, .val x_values, oe (js.v.getD 2 none), .val x_own, .val x_due, .val x_many, oe (js.v.getD 6 none), .val v7.1, .val v7.2.1, .val x_more, .val a16, .no, .no, .no, .no])) (f2 := fun (a16 : D) (b16 : D × (Unit)) => (fun js w => [.cel .io w, .val x_values, oe (js.v.getD 2 none), .val x_own, .val x_due, .val x_many, oe (js.v.getD 6 none), .val v7.1, .val v7.2.1, .val x_more, .val a16, .val b16.1, .no, .no, .no])) (fun _ => sg_v (fun dd => (fun js w => [.cel .io w, .val x_values, oe (js.v.getD 2 none), .val x_own, .val x_due, .val x_many, oe (js.v.getD 6 none), .val v7.1, .val v7.2.1, .val x_more, .val dd, .no, .no, .no, .no])) (fun _ _ => (Nat.le_of_ble_eq_true rfl)) (fun _ _ _ => rfl)) (fun a16 => (fun _ => sg_cons' (c1 := 0) (c2 := 0) (f1 := fun (a17 : D) => (fun js w => [.cel .io w, .val x_values, oe (js.v.getD 2 none), .val x_own, .val x_due, .val x_many, oe (js.v.getD 6 none), .val v7.1, .val v7.2.1, .val x_more, .val a16, .val a17, .no, .no, .no])) (f2 := fun (a17 : D) (b17 : Unit) => (fun js w => [.cel .io w, .val x_values, oe (js.v.getD 2 none), .val x_own, .val x_due, .val x_many, oe (js.v.getD 6 none), .val v7.1, .val v7.2.1, .val x_more, .val a16, .val a17, .no, .no, .no])) (fun _ => sg_v (fun dd => (fun js w => [.cel .io w, .val x_values, oe (js.v.getD 2 none), .val x_own, .val x_due, .val x_many, oe (js.v.getD 6 none), .val v7.1, .val v7.2.1, .val x_more, .val a16, .val dd, .no, .no, .no])) (fun _ _ => (Nat.le_of_ble_eq_true rfl)) (fun _ _ _ => rfl)) (fun a17 => (fun _ => sg_nil')) (Nat.le_of_ble_eq_true rfl))) (Nat.le_of_ble_eq_true rfl))) (fun v15 => sm_P) (fun v15 => (sm_var fun _ _ => rfl)) (fun _ _ => rfl) (fun _ _ => rfl) (fun _ js _ => ⟨js, rfl⟩) (fun _ _ js _ => ⟨js, rfl⟩) (Nat.le_of_ble_eq_true rfl))) sm_nil)) sm_C) (sm_2z (sm_callD (wk (fun js w => ⟨[], [.no, .val x_values, oe (js.v.getD 2 none), .val x_own, .val x_due, .val x_many, oe (js.v.getD 6 none), .val v7.1, .val v7.2.1, .val x_more, .no, .no, .no, .no, .no]⟩) (fun _ _ => rfl)) sim_rising u1_len (sm_consz (sm_B (sm_consz (sm_fz (sm_comp (c1 := 0) (c2 := 0) (c3 := 0) (c4 := 0) (fun js w => [.cel .io w, .val x_values, oe (js.v.getD 2 none), .val x_own, .val x_due, .val x_many, oe (js.v.getD 6 none), .val v7.1, .val v7.2.1, .val x_more, .no, .no, .no, .no, .no]) (fun (v19 : D × (D × (Unit))) => (fun js w => [.cel .io w, .val x_values, oe (js.v.getD 2 none), .val x_own, .val x_due, .val x_many, oe (js.v.getD 6 none), .val v7.1, .val v7.2.1, .val x_more, .val v19.1, .val v19.2.1, .no, .no, .no])) (sm_row (sm_var fun _ _ => rfl)) (fun _ => sg_tup' (fun _ => sg_cons' (c1 := 0) (c2 := 0) (f1 := fun (a20 : D) => (fun js w => [.cel .io w, .val x_values, oe (js.v.getD 2 none), .val x_own, .val x_due, .val x_many, oe (js.v.getD 6 none), .val v7.1, .val v7.2.1, .val x_more, .val a20, .no, .no, .no, .no])) (f2 := fun (a20 : D) (b20 : D × (Unit)) => (fun js w => [.cel .io w, .val x_values, oe (js.v.getD 2 none), .val x_own, .val x_due, .val x_many, oe (js.v.getD 6 none), .val v7.1, .val v7.2.1, .val x_more, .val a20, .val b20.1, .no, .no, .no])) (fun _ => sg_v (fun dd => (fun js w => [.cel .io w, .val x_values, oe (js.v.getD 2 none), .val x_own, .val x_due, .val x_many, oe (js.v.getD 6 none), .val v7.1, .val v7.2.1, .val x_more, .val dd, .no, .no, .no, .no])) (fun _ _ => (Nat.le_of_ble_eq_true rfl)) (fun _ _ _ => rfl)) (fun a20 => (fun _ => sg_cons' (c1 := 0) (c2 := 0) (f1 := fun (a21 : D) => (fun js w => [.cel .io w, .val x_values, oe (js.v.getD 2 none), .val x_own, .val x_due, .val x_many, oe (js.v.getD 6 none), .val v7.1, .val v7.2.1, .val x_more, .val a20, .val a21, .no, .no, .no])) (f2 := fun (a21 : D) (b21 : Unit) => (fun js w => [.cel .io w, .val x_values, oe (js.v.getD 2 none), .val x_own, .val x_due, .val x_many, oe (js.v.getD 6 none), .val v7.1, .val v7.2.1, .val x_more, .val a20, .val a21, .no, .no, .no])) (fun _ => sg_v (fun dd => (fun js w => [.cel .io w, .val x_values, oe (js.v.getD 2 none), .val x_own, .val x_due, .val x_many, oe (js.v.getD 6 none), .val v7.1, .val v7.2.1, .val x_more, .val a20, .val dd, .no, .no, .no])) (fun _ _ => (Nat.le_of_ble_eq_true rfl)) (fun _ _ _ => rfl)) (fun a21 => (fun _ => sg_nil')) (Nat.le_of_ble_eq_true rfl))) (Nat.le_of_ble_eq_true rfl))) (fun v19 => sm_P) (fun v19 => (sm_tup (sm_consz (sm_var fun _ _ => rfl) (sm_consz (sm_2z (sm_var fun _ _ => rfl) (sm_var fun _ _ => rfl)) sm_nil)))) (fun _ _ => rfl) (fun _ _ => rfl) (fun _ js _ => ⟨js, rfl⟩) (fun _ _ js _ => ⟨js, rfl⟩) (Nat.le_of_ble_eq_true rfl))) sm_nil)) sm_nil)) (sm_var fun _ _ => rfl)))))) (Nat.le_of_ble_eq_true rfl)))) (Nat.le_of_ble_eq_true rfl))) (sb_nxseq (sb_rr (sb_ret (wk (fun js w => ⟨[], [.no, .val x_values, oe (js.v.getD 2 none), .val x_own, .val x_due, .val x_many, oe (js.v.getD 6 none), .val v7.1, .val v7.2.1, .no, .no, .no, .no, .no, .no]⟩) (fun _ _ => rfl)) (sm_orz (sm_2z (sm_B (sm_consz (sm_fz (sm_comp (c1 := 0) (c2 := 0) (c3 := 0) (c4 := 0) (fun js w => [.cel .io w, .val x_values, oe (js.v.getD 2 none), .val x_own, .val x_due, .val x_many, oe (js.v.getD 6 none), .val v7.1, .val v7.2.1, .no, .no, .no, .no, .no, .no]) (fun (v23 : D × (D × (Unit))) => (fun js w => [.cel .io w, .val x_values, oe (js.v.getD 2 none), .val x_own, .val x_due, .val x_many, oe (js.v.getD 6 none), .val v7.1, .val v7.2.1, .no, .val v23.1, .val v23.2.1, .no, .no, .no])) (sm_row (sm_var fun _ _ => rfl)) (fun _ => sg_tup' (fun _ => sg_cons' (c1 := 0) (c2 := 0) (f1 := fun (a24 : D) => (fun js w => [.cel .io w, .val x_values, oe (js.v.getD 2 none), .val x_own, .val x_due, .val x_many, oe (js.v.getD 6 none), .val v7.1, .val v7.2.1, .no, .val a24, .no, .no, .no, .no])) (f2 := fun (a24 : D) (b24 : D × (Unit)) => (fun js w => [.cel .io w, .val x_values, oe (js.v.getD 2 none), .val x_own, .val x_due, .val x_many, oe (js.v.getD 6 none), .val v7.1, .val v7.2.1, .no, .val a24, .val b24.1, .no, .no, .no])) (fun _ => sg_v (fun dd => (fun js w => [.cel .io w, .val x_values, oe (js.v.getD 2 none), .val x_own, .val x_due, .val x_many, oe (js.v.getD 6 none), .val v7.1, .val v7.2.1, .no, .val dd, .no, .no, .no, .no])) (fun _ _ => (Nat.le_of_ble_eq_true rfl)) (fun _ _ _ => rfl)) (fun a24 => (fun _ => sg_cons' (c1 := 0) (c2 := 0) (f1 := fun (a25 : D) => (fun js w => [.cel .io w, .val x_values, oe (js.v.getD 2 none), .val x_own, .val x_due, .val x_many, oe (js.v.getD 6 none), .val v7.1, .val v7.2.1, .no, .val a24, .val a25, .no, .no, .no])) (f2 := fun (a25 : D) (b25 : Unit) => (fun js w => [.cel .io w, .val x_values, oe (js.v.getD 2 none), .val x_own, .val x_due, .val x_many, oe (js.v.getD 6 none), .val v7.1, .val v7.2.1, .no, .val a24, .val a25, .no, .no, .no])) (fun _ => sg_v (fun dd => (fun js w => [.cel .io w, .val x_values, oe (js.v.getD 2 none), .val x_own, .val x_due, .val x_many, oe (js.v.getD 6 none), .val v7.1, .val v7.2.1, .no, .val a24, .val dd, .no, .no, .no])) (fun _ _ => (Nat.le_of_ble_eq_true rfl)) (fun _ _ _ => rfl)) (fun a25 => (fun _ => sg_nil')) (Nat.le_of_ble_eq_true rfl))) (Nat.le_of_ble_eq_true rfl))) (fun v23 => sm_P) (fun v23 => (sm_var fun _ _ => rfl)) (fun _ _ => rfl) (fun _ _ => rfl) (fun _ js _ => ⟨js, rfl⟩) (fun _ _ js _ => ⟨js, rfl⟩) (Nat.le_of_ble_eq_true rfl))) sm_nil)) sm_C) (sm_2z (sm_callD (wk (fun js w => ⟨[], [.no, .val x_values, oe (js.v.getD 2 none), .val x_own, .val x_due, .val x_many, oe (js.v.getD 6 none), .val v7.1, .val v7.2.1, .no, .no, .no, .no, .no, .no]⟩) (fun _ _ => rfl)) sim_rising u1_len (sm_consz (sm_B (sm_consz (sm_fz (sm_comp (c1 := 0) (c2 := 0) (c3 := 0) (c4 := 0) (fun js w => [.cel .io w, .val x_values, oe (js.v.getD 2 none), .val x_own, .val x_due, .val x_many, oe (js.v.getD 6 none), .val v7.1, .val v7.2.1, .no, .no, .no, .no, .no, .no]) (fun (v27 : D × (D × (Unit))) => (fun js w => [.cel .io w, .val x_values, oe (js.v.getD 2 none), .val x_own, .val x_due, .val x_many, oe (js.v.getD 6 none), .val v7.1, .val v7.2.1, .no, .val v27.1, .val v27.2.1, .no, .no, .no])) (sm_row (sm_var fun _ _ => rfl)) (fun _ => sg_tup' (fun _ => sg_cons' (c1 := 0) (c2 := 0) (f1 := fun (a28 : D) => (fun js w => [.cel .io w, .val x_values, oe (js.v.getD 2 none), .val x_own, .val x_due, .val x_many, oe (js.v.getD 6 none), .val v7.1, .val v7.2.1, .no, .val a28, .no, .no, .no, .no])) (f2 := fun (a28 : D) (b28 : D × (Unit)) => (fun js w => [.cel .io w, .val x_values, oe (js.v.getD 2 none), .val x_own, .val x_due, .val x_many, oe (js.v.getD 6 none), .val v7.1, .val v7.2.1, .no, .val a28, .val b28.1, .no, .no, .no])) (fun _ => sg_v (fun dd => (fun js w => [.cel .io w, .val x_values, oe (js.v.getD 2 none), .val x_own, .val x_due, .val x_many, oe (js.v.getD 6 none), .val v7.1, .val v7.2.1, .no, .val dd, .no, .no, .no, .no])) (fun _ _ => (Nat.le_of_ble_eq_true rfl)) (fun _ _ _ => rfl)) (fun a28 => (fun _ => sg_cons' (c1 := 0) (c2 := 0) (f1 := fun (a29 : D) => (fun js w => [.cel .io w, .val x_values, oe (js.v.getD 2 none), .val x_own, .val x_due, .val x_many, oe (js.v.getD 6 none), .val v7.1, .val v7.2.1, .no, .val a28, .val a29, .no, .no, .no])) (f2 := fun (a29 : D) (b29 : Unit) => (fun js w => [.cel .io w, .val x_values, oe (js.v.getD 2 none), .val x_own, .val x_due, .val x_many, oe (js.v.getD 6 none), .val v7.1, .val v7.2.1, .no, .val a28, .val a29, .no, .no, .no])) (fun _ => sg_v (fun dd => (fun js w => [.cel .io w, .val x_values, oe (js.v.getD 2 none), .val x_own, .val x_due, .val x_many, oe (js.v.getD 6 none), .val v7.1, .val v7.2.1, .no, .val a28, .val dd, .no, .no, .no])) (fun _ _ => (Nat.le_of_ble_eq_true rfl)) (fun _ _ _ => rfl)) (fun a29 => (fun _ => sg_nil')) (Nat.le_of_ble_eq_true rfl))) (Nat.le_of_ble_eq_true rfl))) (fun v27 => sm_P) (fun v27 => (sm_tup (sm_consz (sm_var fun _ _ => rfl) (sm_consz (sm_2z (sm_var fun _ _ => rfl) (sm_var fun _ _ => rfl)) sm_nil)))) (fun _ _ => rfl) (fun _ _ => rfl) (fun _ js _ => ⟨js, rfl⟩) (fun _ _ js _ => ⟨js, rfl⟩) (Nat.le_of_ble_eq_true rfl))) sm_nil)) sm_nil)) (sm_var fun _ _ => rfl)))))) (Nat.le_of_ble_eq_true rfl)))) (Nat.le_of_ble_eq_true rfl))) (Nat.le_of_ble_eq_true rfl)))) (Nat.le_of_ble_eq_true rfl))) (Nat.le_of_ble_eq_true rfl))) (Nat.le_of_ble_eq_true rfl)))) (Nat.le_of_ble_eq_true rfl)))
theorem sim_law : SimF0 F_law (u1 t_law) := by
  unfold F_law B_law
  exact sfW1 (cc := 6000120000000000) (fun x_script => (fun js w => [.val x_script, .no, .no, .no])) (fun _ _ _ => rfl) (lebig rfl) (fun x_script => by
    unfold t_law
    exact (sb_forX (c1 := 0) (c2 := 0) (c3 := 60001200000) (c4 := 0) (fun (s1 : Unit) => (fun js w => [.val x_script, oe (js.v.getD 1 none), .no, js.a.getD 3 .no])) (fun (s1 : Unit) (x_turn : D) => (fun js w => [.val x_script, .val x_turn, .no, js.a.getD 3 .no])) () (fun d => d) (fun _ => rfl) (fun _ => Or.inl rfl) (fun _ => wk_refl _) (sm_iOf (sm_consz (sm_B (sm_consz sm_C (sm_consz (sm_B (sm_consz sm_C (sm_consz (sm_B (sm_consz (sm_var fun _ _ => rfl) sm_nil)) sm_nil))) sm_nil))) sm_nil)) (wk (fun js w => ⟨[], []⟩) (fun _ _ => rfl)) (fun s1 => (fun _ => sg_v (fun dd => (fun js w => [.val x_script, .val dd, .no, js.a.getD 3 .no])) (fun _ _ => (Nat.le_of_ble_eq_true rfl)) (fun _ _ _ => rfl))) (fun s1 x_turn => (sb_setW (c1 := 0) (c2 := 60001200000) (fun js w => [.val x_script, .val x_turn, .no, .cel .own w]) simW__law_pool lenW__law_pool (sm_consz (sm_var fun _ _ => rfl) (sm_consz (sm_var fun _ _ => rfl) sm_nil)) (fun _ _ => (Nat.le_of_ble_eq_true rfl)) (fun _ _ _ => rfl) (sb_last (sb_ifseq (sb_if (c1 := 60001200000) (c2 := 0) (c3 := 0) (sm_tNot (sm_tru (sm_B (sm_cons (c1 := 60001200000) (c2 := 0) (sm_fz (sm_comp (c1 := 0) (c2 := 0) (c3 := 0) (c4 := 600012) (fun js w => [.val x_script, .val x_turn, .no, .cel .own w]) (fun (x_k : D) => (fun js w => [.val x_script, .val x_turn, .val x_k, .cel .own w])) (sm_iOf (sm_consz sm_C sm_nil)) (fun _ => sg_v (fun dd => (fun js w => [.val x_script, .val x_turn, .val dd, .cel .own w])) (fun _ _ => (Nat.le_of_ble_eq_true rfl)) (fun _ _ _ => rfl)) (fun x_k => sm_P) (fun x_k => (sm_callI (c1 := 600008) (c2 := 4) (wk_any _) (fun _ _ => ⟨_, rfl, fun _ => rfl⟩) (by decide) sim__law_right u1_len' (by decide) (sj_late (fun _ _ => ⟨_, _, rfl⟩) (sa'_val (c1 := 600008) (c2 := 0) (sm_callI (c1 := 0) (c2 := 600008) (wk_any _) (fun _ _ => ⟨_, rfl, fun _ => rfl⟩) (by decide) sim__law_values u1_len' (by decide) (sj_late (fun _ _ => ⟨_, _, rfl⟩) (sa'_val (c1 := 0) (c2 := 0) sm_C sa'_nil (Nat.le_of_ble_eq_true rfl))) (Nat.le_of_ble_eq_true rfl)) sa'_nil (Nat.le_of_ble_eq_true rfl))) (Nat.le_of_ble_eq_true rfl))) (fun _ _ => rfl) (fun _ _ => rfl) (fun _ js _ => ⟨js, rfl⟩) (fun _ _ js _ => ⟨js, rfl⟩) (Nat.le_of_ble_eq_true rfl))) sm_nil (Nat.le_of_ble_eq_true rfl))))) (sb_eq ret_seq (sb_retX (fun _ => rfl) (fun _ => (wk_any _)) sm_C)) (sb_nxseq (sb_nx (Lx.go ()) (Or.inl rfl) (wk (fun js w => ⟨[none, some x_turn, none, none], [.no, .no, .no, .cel .own w]⟩) (fun _ _ => rfl)))) (Nat.le_of_ble_eq_true rfl)))) (Nat.le_of_ble_eq_true rfl))) (fun s2 => (sb_forX (c1 := 0) (c2 := 0) (c3 := 0) (c4 := 0) (fun (s3 : Unit) => (fun js w => [.val x_script, oe (js.v.getD 1 none), oe (js.v.getD 2 none), js.a.getD 3 .no])) (fun (s3 : Unit) (x_k_2 : D) => (fun js w => [.val x_script, oe (js.v.getD 1 none), .val x_k_2, js.a.getD 3 .no])) () (fun d => d) (fun _ => rfl) (fun _ => Or.inl rfl) (fun _ => wk_refl _) (sm_iOf (sm_consz sm_C sm_nil)) (wk (fun js w => ⟨[none, js.v.getD 1 none, none, none], [.no, .no, .no, js.a.getD 3 .no]⟩) (fun _ _ => rfl)) (fun s3 => (fun _ => sg_v (fun dd => (fun js w => [.val x_script, oe (js.v.getD 1 none), .val dd, js.a.getD 3 .no])) (fun _ _ => (Nat.le_of_ble_eq_true rfl)) (fun _ _ _ => rfl))) (fun s3 x_k_2 => (sb_last (sb_ifseq (sb_if (c1 := 0) (c2 := 0) (c3 := 0) (sm_tNot (sm_tru (sm_callN (c2 := 4) (wk_any _) sim__law_right u1_len' (lebig rfl) (sn_new (c1 := 0) (c2 := 0) simW__law_pool lenW__law_pool (sm_consz (sm_var fun _ _ => rfl) (sm_consz sm_C sm_nil)) (sn_val (c1 := 0) (c2 := 0) (sm_tup (sm_consz (sm_tup (sm_consz (sm_2z (sm_B (sm_consz (sm_var fun _ _ => rfl) sm_nil)) sm_C) (sm_consz sm_C sm_nil))) (sm_consz (sm_tup (sm_consz (sm_2z (sm_B (sm_consz (sm_2z (sm_var fun _ _ => rfl) sm_C) sm_nil)) sm_C) (sm_consz sm_C sm_nil))) (sm_consz (sm_tup (sm_consz (sm_2z (sm_var fun _ _ => rfl) sm_C) (sm_consz sm_C sm_nil))) sm_nil)))) sn_nil (Nat.le_of_ble_eq_true rfl)) (Nat.le_of_ble_eq_true rfl))))) (sb_eq ret_seq (sb_retX (fun _ => rfl) (fun _ => (wk_any _)) sm_C)) (sb_nxseq (sb_nx (Lx.go ()) (Or.inl rfl) (wk (fun js w => ⟨[none, js.v.getD 1 none, some x_k_2, none], [.no, .no, .no, js.a.getD 3 .no]⟩) (fun _ _ => rfl)))) (Nat.le_of_ble_eq_true rfl))))) (fun s4 => (sb_rr (sb_ret (wk_any _) (sm_andz (sm_2z (sm_callD (wk_any _) sim_rising u1_len (sm_consz (sm_tup (sm_consz (sm_tup (sm_consz sm_C (sm_consz sm_C sm_nil))) (sm_consz (sm_tup (sm_consz sm_C (sm_consz sm_C sm_nil))) (sm_consz (sm_tup (sm_consz sm_C (sm_consz sm_C sm_nil))) sm_nil)))) sm_nil)) (sm_tup (sm_consz (sm_tup (sm_consz sm_C (sm_consz sm_C sm_nil))) (sm_consz (sm_tup (sm_consz sm_C (sm_consz sm_C sm_nil))) (sm_consz (sm_tup (sm_consz sm_C (sm_consz sm_C sm_nil))) sm_nil))))) (sm_2z (sm_callD (wk_any _) sim_rising u1_len (sm_consz (sm_tup (sm_consz (sm_tup (sm_consz sm_C (sm_consz sm_C sm_nil))) (sm_consz (sm_tup (sm_consz sm_C (sm_consz sm_C sm_nil))) sm_nil))) sm_nil)) (sm_tup (sm_consz (sm_tup (sm_consz sm_C (sm_consz sm_C sm_nil))) (sm_consz (sm_tup (sm_consz sm_C (sm_consz sm_C sm_nil))) sm_nil)))))))) (Nat.le_of_ble_eq_true rfl))) (Nat.le_of_ble_eq_true rfl)))
end FL
namespace FL
theorem plain_law : Plain F_law := plain_ofb sim_law plain_t
end FL
open PySem PySem.W PyProof.Rows
set_option maxRecDepth 100000 in
set_option maxHeartbeats 0 in
theorem PySem.Challenge.cw_levelruns_k46_whole_rising_rows_by_means_holds : PySem.Challenge.rw_levelruns_k46_whole_rising_rows_by_means.Holds := by
  w_on; o_law; k_head; (case hw => w_witness2)
  k_fill
  refine FL.walkF (k := 13) (l := PySem.Challenge.rw_levelruns_k46_whole_rising_rows_by_means) rfl rfl ⟨rfl, by decide, by decide⟩ (fun w h Y => PySem.W.kIn_of Y) ?F
  case F =>
    intro w mg fa h KX G hmg
    refine' FL.all_mk FL.plain_law KX G hmg ?a0 ?l0 ?c0 ?k0 ?a1 ?l1 ?c1 ?k1 ?a2 ?l2 ?c2 ?k2 ?a3 ?l3 ?c3 ?k3 ?a4 ?l4 ?c4 ?k4 ?a5 ?l5 ?c5 ?k5 ?a6 ?l6 ?c6 ?k6 ?a7 ?l7 ?c7 ?k7 ?a8 ?l8 ?c8 ?k8 ?a9 ?l9 ?c9 ?k9 ?a10 ?l10 ?c10 ?k10 ?a11 ?l11 ?c11 ?k11 ?a12 ?l12 ?c12 ?k12 ?a13 ?l13 ?c13 ?k13 ?a14 ?l14 ?c14 ?k14 ?a15 ?l15 ?c15 ?k15 ?a16 ?l16 ?c16 ?k16 ?a17 ?l17 ?c17 ?k17 ?a18 ?l18 ?c18 ?k18 ?a19 ?l19 ?c19 ?k19 ?a20 ?l20 ?c20 ?k20 ?a21 ?l21 ?c21 ?k21 ?a22 ?l22 ?c22 ?k22 ?a23 ?l23 ?c23 ?k23 ?a24 ?l24 ?c24 ?k24 ?a25 ?l25 ?c25 ?k25 ?a26 ?l26 ?c26 ?k26 ?a27 ?l27 ?c27 ?k27 ?a28 ?l28 ?c28 ?k28 ?a29 ?l29 ?c29 ?k29 ?a30 ?l30 ?c30 ?k30 ?a31 ?l31 ?c31 ?k31 ?zb_abs ?zb_all ?zb_bool ?zb_dict ?zb_enumerate ?zb_int ?zb_isinstance ?zb_len ?zb_list ?zb_max ?zb_min ?zb_range ?zb_sorted ?zb_str ?zb_sum ?zb_tuple ?zc_FARTHEST ?zc_MOST_VALUES ?zc_MOST_WEIGHT ?zg_gcd
    (case a0 => k_is)
    (case l0 => k_is)
    (case c0 => k_is)
    (case k0 => k_is)
    (case a1 => k_is)
    (case l1 => k_is)
    (case c1 => k_is)
    (case k1 => k_is)
    (case a2 => k_is)
    (case l2 => k_is)
    (case c2 => k_is)
    (case k2 => k_is)
    (case a3 => k_is)
    (case l3 => k_is)
    (case c3 => k_is)
    (case k3 => k_is)
    (case a4 => k_is)
    (case l4 => k_is)
    (case c4 => k_is)
    (case k4 => k_is)
    (case a5 => k_is)
    (case l5 => k_is)
    (case c5 => k_is)
    (case k5 => k_is)
    (case a6 => k_is)
    (case l6 => k_is)
    (case c6 => k_is)
    (case k6 => k_is)
    (case a7 => k_is)
    (case l7 => k_is)
    (case c7 => k_is)
    (case k7 => k_is)
    (case a8 => k_is)
    (case l8 => k_is)
    (case c8 => k_is)
    (case k8 => k_is)
    (case a9 => k_is)
    (case l9 => k_is)
    (case c9 => k_is)
    (case k9 => k_is)
    (case a10 => k_is)
    (case l10 => k_is)
    (case c10 => k_is)
    (case k10 => k_is)
    (case a11 => k_is)
    (case l11 => k_is)
    (case c11 => k_is)
    (case k11 => k_is)
    (case a12 => k_is)
    (case l12 => k_is)
    (case c12 => k_is)
    (case k12 => k_is)
    (case a13 => k_is)
    (case l13 => k_is)
    (case c13 => k_is)
    (case k13 => k_is)
    (case a14 => k_is)
    (case l14 => k_is)
    (case c14 => k_is)
    (case k14 => k_is)
    (case a15 => k_is)
    (case l15 => k_is)
    (case c15 => k_is)
    (case k15 => k_is)
    (case a16 => k_is)
    (case l16 => k_is)
    (case c16 => k_is)
    (case k16 => k_is)
    (case a17 => k_is)
    (case l17 => k_is)
    (case c17 => k_is)
    (case k17 => k_is)
    (case a18 => k_is)
    (case l18 => k_is)
    (case c18 => k_is)
    (case k18 => k_is)
    (case a19 => k_is)
    (case l19 => k_is)
    (case c19 => k_is)
    (case k19 => k_is)
    (case a20 => k_is)
    (case l20 => k_is)
    (case c20 => k_is)
    (case k20 => k_is)
    (case a21 => k_is)
    (case l21 => k_is)
    (case c21 => k_is)
    (case k21 => k_is)
    (case a22 => k_is)
    (case l22 => k_is)
    (case c22 => k_is)
    (case k22 => k_is)
    (case a23 => k_is)
    (case l23 => k_is)
    (case c23 => k_is)
    (case k23 => k_is)
    (case a24 => k_is)
    (case l24 => k_is)
    (case c24 => k_is)
    (case k24 => k_is)
    (case a25 => k_is)
    (case l25 => k_is)
    (case c25 => k_is)
    (case k25 => k_is)
    (case a26 => k_is)
    (case l26 => k_is)
    (case c26 => k_is)
    (case k26 => k_is)
    (case a27 => k_is)
    (case l27 => k_is)
    (case c27 => k_is)
    (case k27 => k_is)
    (case a28 => k_is)
    (case l28 => k_is)
    (case c28 => k_is)
    (case k28 => k_is)
    (case a29 => k_is)
    (case l29 => k_is)
    (case c29 => k_is)
    (case k29 => k_is)
    (case a30 => k_is)
    (case l30 => k_is)
    (case c30 => k_is)
    (case k30 => k_is)
    (case a31 => k_is)
    (case l31 => k_is)
    (case c31 => k_is)
    (case k31 => k_is)
    (case zb_abs => k_is)
    (case zb_all => k_is)
    (case zb_bool => k_is)
    (case zb_dict => k_is)
    (case zb_enumerate => k_is)
    (case zb_int => k_is)
    (case zb_isinstance => k_is)
    (case zb_len => k_is)
    (case zb_list => k_is)
    (case zb_max => k_is)
    (case zb_min => k_is)
    (case zb_range => k_is)
    (case zb_sorted => k_is)
    (case zb_str => k_is)
    (case zb_sum => k_is)
    (case zb_tuple => k_is)
    (case zc_FARTHEST => k_is)
    (case zc_MOST_VALUES => k_is)
    (case zc_MOST_WEIGHT => k_is)
    (case zg_gcd => k_is)
#print axioms PySem.Challenge.cw_levelruns_k46_whole_rising_rows_by_means_holds
