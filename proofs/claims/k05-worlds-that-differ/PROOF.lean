import PyProof.Rows.All
import Wide.All
import OpenK.AllK
import Wide.FinOn
import HandS.ForMost
import HandS.HeadHook4
import HandS.Exc
import HandS.ExcOwn
import HandS.WordsExc
import HandS.Wide
import HandS.IsInst
import HandS.TupAny
import HandS.TupMul
import HandS.Deep
import HandS.Text
import HandS.RaiseMore
import HandS.More
import HandS.Flow
import HandS.Style
import PyProof.DictUpdate
import KE.GoesMore
import KE.GoesEnum
import KE.GoesZip
import HandS.TryOnly
import KE.KDictZip
import HandS.WideBits
import HandS.SetFor
import HandS.Strs
import HandS.ExcIs
import HandS.ExcValue
import KE.KExcIs
import HandS.ExcField
import HandS.ExcInit
import HandS.Defaults
import HandS.HeadEnd
import KE.KStateDown
import HandS.Head0
import HandS.Head1
import HandS.Head2
import PySem.Challenge.RW_likebeats_k05_worlds_that_differ
set_option Elab.async false
set_option linter.all false
set_option maxRecDepth 100000
set_option maxHeartbeats 0
set_option exponentiation.threshold 5000
namespace LB
open PySem

/-! ### data -/
inductive D where
  | non | bl (b : Bool) | int (i : Int) | str (x : Str) | tup (ds : List D) | lst (ds : List D)
  | ktp (ds : List D)
  | dct (tk : Bool) (kvs : List (D × D)) | ref (n : Nat) | glo (x : Str) | kdc (kvs : List (Str × D))
  | exo (c : Str) | exf (c f : Str) (d : D)

/-- what a mutable object holds -/
inductive Ob where
  | lst (ds : List D) | dct (tk : Bool) (kvs : List (D × D))
/-- an object of the store -/
inductive SO where
  | ob (o : Ob) | ins (c : Str) (fs : List (Str × D))
/-- a slot: nothing, a value, an object of its own -/
inductive Sl where
  | un | va (d : D) | own (o : Ob)
def Ob.d : Ob → D
  | .lst ds => .lst ds
  | .dct t kvs => .dct t kvs
structure Mst where
  ρ : List Sl
  S : List SO
/-- an exception: its class, its fields -/
structure Xc where
  c : Str
  fs : List (Str × D)
inductive Res (α : Type) where
  | ok (a : α) (m : Mst) | exc (x : Xc) (m : Mst) | no
abbrev Mo (α : Type) := Mst → Res α
def Mo.ret {α : Type} (a : α) : Mo α := fun m => .ok a m
def Res.bind {α β : Type} (r : Res α) (f : α → Mo β) : Res β := match r with
  | .ok a m => f a m
  | .exc x m => .exc x m
  | .no => .no
def Mo.bind {α β : Type} (x : Mo α) (f : α → Mo β) : Mo β := fun m => (x m).bind f
def Mo.no {α : Type} : Mo α := fun _ => .no
def Mo.opt {α : Type} : Option α → Mo α
  | some a => .ret a
  | none => .no
@[simp] theorem Res.bind_ok {α β : Type} (a : α) (m : Mst) (f : α → Mo β) : (Res.ok a m).bind f = f a m := rfl
@[simp] theorem Res.bind_exc {α β : Type} (x : Xc) (m : Mst) (f : α → Mo β) : (Res.exc x m : Res α).bind f = .exc x m := rfl
@[simp] theorem Res.bind_no {α β : Type} (f : α → Mo β) : (Res.no : Res α).bind f = .no := rfl
@[simp] theorem Mo.ret_at {α : Type} (a : α) (m : Mst) : Mo.ret a m = .ok a m := rfl
@[simp] theorem Mo.bind_at {α β : Type} (x : Mo α) (f : α → Mo β) (m : Mst) : Mo.bind x f m = (x m).bind f := rfl
@[simp] theorem Mo.no_at {α : Type} (m : Mst) : (Mo.no : Mo α) m = .no := rfl
@[simp] theorem Mo.opt_some {α : Type} (a : α) (m : Mst) : Mo.opt (some a) m = .ok a m := rfl
@[simp] theorem Mo.opt_none {α : Type} (m : Mst) : (Mo.opt (none : Option α)) m = .no := rfl

/-! ### data looked at -/
mutual
def D.toP : D → PyData
  | .non => .none | .bl b => .bool b | .int i => .int i | .str x => .str x
  | .tup ds => .tuple (D.toPs ds) | .lst ds => .list (D.toPs ds)
  | .ktp ds => .tuple (D.toPs ds)
  | .dct _ _ => .dict [] | .ref _ => .dict [] | .glo _ => .dict [] | .kdc _ => .dict []
  | .exo _ => .dict [] | .exf _ _ _ => .dict []
def D.toPs : List D → List PyData
  | [] => []
  | d :: r => d.toP :: D.toPs r
end
/-- == of two data, where it is told -/
def eqD (a b : D) : Option Bool := if SeqAt.shaped a.toP && SeqAt.shaped b.toP then some (PyData.eqv a.toP b.toP) else none
/-- a sequence's items -/
def signs (x : Str) : List D := x.cps.toList.map fun c => .str ⟨#[c]⟩
def itemsD : D → Option (List D)
  | .tup ds => some ds
  | .ktp ds => some ds
  | .lst ds => some ds
  | .str x => some (signs x)
  | _ => none
/-- truth -/
def truD : D → Option Bool
  | .non => some false
  | .bl b => some b
  | .int i => some (i != 0)
  | .str x => if x.length ≤ sizeLine then some (x.length != 0) else none
  | .tup ds => some (!ds.isEmpty)
  | .lst ds => some (!ds.isEmpty)
  | _ => none
end LB

namespace LB
open PySem L2

/-- what stands fast: the written part, the world, the module's names -/
structure Stc where
  K : PySem.W.Frag
  w : World
  mg : Str → Option Value
def keyD : D → Option Key
  | .int i => some (.inl i)
  | .str x => some (.inr x)
  | _ => none
def keysD : List D → Option (List Key)
  | [] => some []
  | d :: r => match keyD d, keysD r with
    | some k, some ks => some (k :: ks)
    | _, _ => none
def keyT : D → Option (List Key)
  | .tup ds => keysD ds
  | _ => none

/-- a caught exception of the class cls: it stays -/
def xo (a : Addr) (cls : Value) (d : Option Addr) : HO := .ext fun h => ∃ (oe : Obj) (vs : Array Value), h.get? a = some oe ∧ Zc cls d oe ∧ oe.data = .fields vs
section
variable (Z : Stc) (G : Hp) (μ : Nat → Addr) (N : Nat)
mutual
/-- a datum is borne by a value, over a heap of things that stay -/
inductive DV : D → V → Prop
  | non : DV .non .non
  | bl (b : Bool) : DV (.bl b) (.bl b)
  | int (i : Int) : DV (.int i) (.int i)
  | str (x : Str) : DV (.str x) (.str x)
  | tup {a : Addr} {vs : List V} {ds : List D} : G a = some (.tup vs) → DVs ds vs → DV (.tup ds) (.ref a)
  | ktp {a : Addr} {vs : List V} {ds : List D} : SqT Z.K G a vs → DVs ds vs → DV (.ktp ds) (.ref a)
  | lst {a : Addr} {vs : List V} {ds : List D} : Rd G a (.lst vs) → DVs ds vs → DV (.lst ds) (.ref a)
  | dk {a : Addr} {kvs : List (D × D)} {ks : List (Key × V)} : G a = some (.dK ks) → DVk kvs ks → DV (.dct false kvs) (.ref a)
  | dt {a : Addr} {kvs : List (D × D)} {ks : List (List Key × V)} : G a = some (.dT ks) → DVt kvs ks → DV (.dct true kvs) (.ref a)
  | kd {a : Addr} {kvs : List (Str × D)} {es : Array DictEntry} {n : Nat} : KDict Z.K Z.w a es n → DVe kvs es.toList → DV (.kdc kvs) (.ref a)
  | ref {n : Nat} : n < N → DV (.ref n) (.ref (μ n))
  | glo {x : Str} {a : Addr} : Z.mg x = some (.ref a) → DV (.glo x) (.ref a)
  | exo {c : Str} {a C : Addr} : Z.mg c = some (.ref C) → G a = some (xo a (.ref C) none) → DV (.exo c) (.ref a)
  | exf {c f : Str} {d : D} {a C b : Addr} {v : V} : Z.mg c = some (.ref C) → G a = some (xo a (.ref C) (some b)) → G b = some (.xd [(f, v)]) → DV d v → DV (.exf c f d) (.ref a)
inductive DVs : List D → List V → Prop
  | nil : DVs [] []
  | cons {d : D} {v : V} {ds : List D} {vs : List V} : DV d v → DVs ds vs → DVs (d :: ds) (v :: vs)
inductive DVk : List (D × D) → List (Key × V) → Prop
  | nil : DVk [] []
  | cons {e d : D} {k : Key} {v : V} {ds : List (D × D)} {vs : List (Key × V)} : keyD e = some k → DV d v → DVk ds vs → DVk ((e, d) :: ds) ((k, v) :: vs)
inductive DVt : List (D × D) → List (List Key × V) → Prop
  | nil : DVt [] []
  | cons {e d : D} {k : List Key} {v : V} {ds : List (D × D)} {vs : List (List Key × V)} : keyT e = some k → DV d v → DVt ds vs → DVt ((e, d) :: ds) ((k, v) :: vs)
inductive DVe : List (Str × D) → List DictEntry → Prop
  | nil : DVe [] []
  | cons {d : D} {x : Str} {t : Tok} {v : V} {u : Value} {h : Int} {ds : List (Str × D)} {es : List DictEntry} : RelV v u → DV d v → DVe ds es → DVe ((x, d) :: ds) (⟨h, .str x t, u⟩ :: es)
end
end

/-! ### more is known: what is borne stays borne -/
section
variable {Z : Stc} {G G' : Hp} {μ μ' : Nat → Addr} {N N' : Nat}
structure Mor (G G' : Hp) (μ μ' : Nat → Addr) (N N' : Nat) : Prop where
  g : ∀ a o, G a = some o → G' a = some o
  m : ∀ n, n < N → μ' n = μ n
  n : N ≤ N'
theorem Mor.rfl' : Mor G G μ μ N N := ⟨fun _ _ h => h, fun _ _ => rfl, Nat.le_refl _⟩
theorem Mor.trans {G2 : Hp} {μ2 : Nat → Addr} {N2 : Nat} (a : Mor G G' μ μ' N N') (b : Mor G' G2 μ' μ2 N' N2) : Mor G G2 μ μ2 N N2 :=
  ⟨fun x o h => b.g x o (a.g x o h), fun n h => (b.m n (Nat.lt_of_lt_of_le h a.n)).trans (a.m n h), Nat.le_trans a.n b.n⟩
theorem rd_mor (h : ∀ a o, G a = some o → G' a = some o) {a : Addr} {u : HO} (r : Rd G a u) : Rd G' a u := by
  rcases r with r | ⟨o, r⟩
  · exact .inl (h _ _ r)
  · exact .inr ⟨o, h _ _ r⟩
theorem sqT_mor {K : PySem.W.Frag} (h : ∀ a o, G a = some o → G' a = some o) {a : Addr} {vs : List V} (r : SqT K G a vs) : SqT K G' a vs := r.imp_left (rd_mor h)
theorem sqL_mor {K : PySem.W.Frag} (h : ∀ a o, G a = some o → G' a = some o) {a : Addr} {vs : List V} (r : SqL K G a vs) : SqL K G' a vs := r.imp_left (rd_mor h)
mutual
theorem DV.mor (e : Mor G G' μ μ' N N') : ∀ {d : D} {v : V}, DV Z G μ N d v → DV Z G' μ' N' d v
  | _, _, .non => .non
  | _, _, .bl b => .bl b
  | _, _, .int i => .int i
  | _, _, .str x => .str x
  | _, _, .tup h r => .tup (e.g _ _ h) (DVs.mor e r)
  | _, _, .ktp h r => .ktp (sqT_mor e.g h) (DVs.mor e r)
  | _, _, .lst h r => .lst (rd_mor e.g h) (DVs.mor e r)
  | _, _, .dk h r => .dk (e.g _ _ h) (DVk.mor e r)
  | _, _, .dt h r => .dt (e.g _ _ h) (DVt.mor e r)
  | _, _, .kd h r => .kd h (DVe.mor e r)
  | _, _, .ref h => by rw [← e.m _ h]; exact .ref (Nat.lt_of_lt_of_le h e.n)
  | _, _, .glo h => .glo h
  | _, _, .exo h k => .exo h (e.g _ _ k)
  | _, _, .exf h k l r => .exf h (e.g _ _ k) (e.g _ _ l) (DV.mor e r)
theorem DVs.mor (e : Mor G G' μ μ' N N') : ∀ {d : List D} {v : List V}, DVs Z G μ N d v → DVs Z G' μ' N' d v
  | _, _, .nil => .nil
  | _, _, .cons h r => .cons (DV.mor e h) (DVs.mor e r)
theorem DVk.mor (e : Mor G G' μ μ' N N') : ∀ {d : List (D × D)} {v : List (Key × V)}, DVk Z G μ N d v → DVk Z G' μ' N' d v
  | _, _, .nil => .nil
  | _, _, .cons k h r => .cons k (DV.mor e h) (DVk.mor e r)
theorem DVt.mor (e : Mor G G' μ μ' N N') : ∀ {d : List (D × D)} {v : List (List Key × V)}, DVt Z G μ N d v → DVt Z G' μ' N' d v
  | _, _, .nil => .nil
  | _, _, .cons k h r => .cons k (DV.mor e h) (DVt.mor e r)
theorem DVe.mor (e : Mor G G' μ μ' N N') : ∀ {d : List (Str × D)} {v : List DictEntry}, DVe Z G μ N d v → DVe Z G' μ' N' d v
  | _, _, .nil => .nil
  | _, _, .cons k h r => .cons k (DV.mor e h) (DVe.mor e r)
end
theorem DVs.length : ∀ {d : List D} {v : List V}, DVs Z G μ N d v → d.length = v.length
  | _, _, .nil => rfl
  | _, _, .cons _ r => by rw [List.length_cons, List.length_cons, DVs.length r]
theorem DVk.length : ∀ {d : List (D × D)} {v : List (Key × V)}, DVk Z G μ N d v → d.length = v.length
  | _, _, .nil => rfl
  | _, _, .cons _ _ r => by rw [List.length_cons, List.length_cons, DVk.length r]
theorem DVt.length : ∀ {d : List (D × D)} {v : List (List Key × V)}, DVt Z G μ N d v → d.length = v.length
  | _, _, .nil => rfl
  | _, _, .cons _ _ r => by rw [List.length_cons, List.length_cons, DVt.length r]
theorem DVs.append : ∀ {d e : List D} {v w : List V}, DVs Z G μ N d v → DVs Z G μ N e w → DVs Z G μ N (d ++ e) (v ++ w)
  | _, _, _, _, .nil, q => q
  | _, _, _, _, .cons h r, q => .cons h (DVs.append r q)
theorem DVs.get : ∀ {d : List D} {v : List V} {i : Nat} {x : D}, DVs Z G μ N d v → d[i]? = some x → ∃ y, v[i]? = some y ∧ DV Z G μ N x y
  | _, _, 0, _, .cons h r, e => by cases e; exact ⟨_, rfl, h⟩
  | _, _, i + 1, _, .cons h r, e => DVs.get (i := i) r (by simpa using e)
  | _, _, _, _, .nil, e => by simp at e
theorem DVs.get' : ∀ {d : List D} {v : List V} {i : Nat} {y : V}, DVs Z G μ N d v → v[i]? = some y → ∃ x, d[i]? = some x ∧ DV Z G μ N x y
  | _, _, 0, _, .cons h r, e => by cases e; exact ⟨_, rfl, h⟩
  | _, _, i + 1, _, .cons h r, e => DVs.get' (i := i) r (by simpa using e)
  | _, _, _, _, .nil, e => by simp at e
theorem DVs.take : ∀ {d : List D} {v : List V} (n : Nat), DVs Z G μ N d v → DVs Z G μ N (d.take n) (v.take n)
  | _, _, 0, _ => .nil
  | _, _, _ + 1, .nil => .nil
  | _, _, n + 1, .cons h r => .cons h (DVs.take n r)
theorem DVs.drop : ∀ {d : List D} {v : List V} (n : Nat), DVs Z G μ N d v → DVs Z G μ N (d.drop n) (v.drop n)
  | _, _, 0, h => h
  | _, _, _ + 1, .nil => .nil
  | _, _, n + 1, .cons h r => DVs.drop n r
theorem DVs.reverse : ∀ {d : List D} {v : List V}, DVs Z G μ N d v → DVs Z G μ N d.reverse v.reverse
  | _, _, .nil => .nil
  | _, _, .cons h r => by rw [List.reverse_cons, List.reverse_cons]; exact (DVs.reverse r).append (.cons h .nil)
theorem DVs.set : ∀ {d : List D} {v : List V} {x : D} {y : V} (i : Nat), DVs Z G μ N d v → DV Z G μ N x y → DVs Z G μ N (d.set i x) (v.set i y)
  | _, _, _, _, _, .nil, _ => .nil
  | _, _, _, _, 0, .cons h r, q => .cons q r
  | _, _, _, _, i + 1, .cons h r, q => .cons h (DVs.set i r q)
theorem DVs.ints : ∀ {ns : List Int} {v : List V}, DVs Z G μ N (ns.map .int) v → v = ns.map V.int
  | [], _, .nil => rfl
  | _ :: _, _, .cons (.int _) r => by rw [DVs.ints r]; rfl
end

/-! ### states -/
/-- the names of attributes that objects may have -/
def fldNames : List Str := ["at", "beats", "boxes", "coming", "fault", "grows", "heads", "is_due", "is_good", "is_growing", "long", "marks_ahead", "met", "nearest", "open_ones", "past", "reader", "said", "state", "tables", "told_ones", "touches", "wanted_heads", "went", "words", "nearness", "far", "wrong", "width"]
structure InsOk (K : PySem.W.Frag) (C : Addr) : Prop where
  cls : Cls K C
  no : ∀ f ∈ fldNames, NoAttr K C f
inductive Ow where
  | sl (i : Nat) | lo (n : Nat) | di (n : Nat)
  deriving DecidableEq
structure Gh where
  G : Hp
  μ : Nat → Addr
  ow : Addr → Option Ow
section
variable (Z : Stc) (g : Gh) (N : Nat)
def ObR : Ob → HO → Prop
  | .lst ds, h => ∃ vs, h = .lst vs ∧ DVs Z g.G g.μ N ds vs
  | .dct false kvs, h => ∃ ks, h = .dK ks ∧ DVk Z g.G g.μ N kvs ks
  | .dct true kvs, h => ∃ ks, h = .dT ks ∧ DVt Z g.G g.μ N kvs ks
def FsR : List (Str × D) → List (Str × V) → Prop
  | [], [] => True
  | (x, d) :: r, (y, v) :: s => x = y ∧ DV Z g.G g.μ N d v ∧ FsR r s
  | _, _ => False
def SlR (σ : St) (H : Hp) (i : Nat) : Sl → Prop
  | .un => True
  | .va d => ∃ v, σ[i]? = some (some v) ∧ DV Z g.G g.μ N d v
  | .own o => ∃ a h, σ[i]? = some (some (.ref a)) ∧ g.ow a = some (.sl i) ∧ H a = some h ∧ ObR Z g N o h
def SoR (H : Hp) (n : Nat) : SO → Prop
  | .ob o => ∃ h, g.ow (g.μ n) = some (.lo n) ∧ H (g.μ n) = some h ∧ ObR Z g N o h
  | .ins c fs => ∃ C dx fs', g.ow (g.μ n) = some (.lo n) ∧ (Z.mg c = some (.ref C) ∧ InsOk Z.K C) ∧ H (g.μ n) = some (.ins C dx fs') ∧ H dx = some (.own (g.μ n)) ∧ g.ow dx = some (.di n) ∧ FsR Z g N fs fs'
end
/-- the store and the things that stay; Fo: what was there and isn't ours -/
structure GoodS (Z : Stc) (Fo : Hp) (g : Gh) (S : List SO) (H : Hp) : Prop where
  gh : ∀ a o, g.G a = some o → H a = some o
  fo : ∀ a o, Fo a = some o → H a = some o
  st : ∀ n o, S[n]? = some o → SoR Z g S.length H n o
  ow : ∀ a w, g.ow a = some w → g.G a = none ∧ Fo a = none ∧ ∃ o, H a = some o
structure Good (Z : Stc) (Fo : Hp) (g : Gh) (m : Mst) (σ : St) (H : Hp) : Prop where
  s : GoodS Z Fo g m.S H
  len : m.ρ.length = σ.length
  sl : ∀ i s, m.ρ[i]? = some s → SlR Z g m.S.length σ H i s
/-- from one state on to another -/
structure Ext (Fo : Hp) (g : Gh) (N : Nat) (g' : Gh) (N' : Nat) : Prop where
  mor : Mor g.G g'.G g.μ g'.μ N N'
  new : ∀ a o, g'.G a = some o → g.G a = some o ∨ Fo a = none
theorem Ext.rfl' {Fo : Hp} {g : Gh} {N : Nat} : Ext Fo g N g N := ⟨.rfl', fun _ _ h => .inl h⟩
theorem Ext.trans {Fo : Hp} {g g1 g2 : Gh} {N N1 N2 : Nat} (a : Ext Fo g N g1 N1) (b : Ext Fo g1 N1 g2 N2) : Ext Fo g N g2 N2 :=
  ⟨a.mor.trans b.mor, fun x o h => (b.new x o h).elim (fun h => a.new x o h) .inr⟩
theorem DV.ext {Z : Stc} {Fo : Hp} {g g' : Gh} {N N' : Nat} {d : D} {v : V} (h : DV Z g.G g.μ N d v) (e : Ext Fo g N g' N') : DV Z g'.G g'.μ N' d v := h.mor e.mor
theorem DVs.ext {Z : Stc} {Fo : Hp} {g g' : Gh} {N N' : Nat} {d : List D} {v : List V} (h : DVs Z g.G g.μ N d v) (e : Ext Fo g N g' N') : DVs Z g'.G g'.μ N' d v := h.mor e.mor

/-- an exception's own field, if it has one -/
def XfR (Z : Stc) (g : Gh) (N : Nat) (dd : Option Addr) : List (Str × D) → Prop
  | [] => dd = none
  | [(f, d)] => ∃ a v, dd = some a ∧ g.G a = some (.xd [(f, v)]) ∧ DV Z g.G g.μ N d v
  | _ => False
theorem XfR.imp {Z : Stc} {g g2 : Gh} {N N2 : Nat} {dd : Option Addr} (h : ∀ a o, g.G a = some o → g2.G a = some o) : ∀ {fs : List (Str × D)}, (∀ d ∈ fs.map (·.2), ∀ v, DV Z g.G g.μ N d v → DV Z g2.G g2.μ N2 d v) → XfR Z g N dd fs → XfR Z g2 N2 dd fs
  | [], _, r => r
  | [(_, d)], k, ⟨a, v, h1, h2, h3⟩ => ⟨a, v, h1, h _ _ h2, k d (by simp) v h3⟩
  | _ :: _ :: _, _, r => r.elim
def ExcR (Z : Stc) (g : Gh) (N : Nat) (x : Xc) (cls : Value) (dd : Option Addr) (_H : Hp) : Prop :=
  ∃ C, Z.mg x.c = some (.ref C) ∧ cls = .ref C ∧ XfR Z g N dd x.fs
section
variable (Z : Stc) (Fo : Hp) (W : WX)
/-- what is wanted behind a reckoning: R, how what is told is borne -/
def Pg {α β : Type} (R : Gh → Nat → Hp → α → β → Prop) (g : Gh) (N : Nat) (σ : L2.St) (Q : β → Hp → Prop) : Res α → Prop
  | .ok d m => ∀ v H g', Good Z Fo g' m σ H → Ext Fo g N g' m.S.length → R g' m.S.length H d v → Q v H
  | .exc x m => ∀ cls dd H g', Good Z Fo g' m σ H → Ext Fo g N g' m.S.length → ExcR Z g' m.S.length x cls dd H → W cls dd σ H
  | .no => False
abbrev RD (Z : Stc) : Gh → Nat → Hp → D → V → Prop := fun g N _ d v => DV Z g.G g.μ N d v
abbrev RDs (Z : Stc) : Gh → Nat → Hp → List D → List V → Prop := fun g N _ d v => DVs Z g.G g.μ N d v
abbrev RB : Gh → Nat → Hp → Bool → Bool → Prop := fun _ _ _ a b => a = b
/-- a new object of nobody's -/
abbrev RN (Z : Stc) (Fo : Hp) : Gh → Nat → Hp → Ob → V → Prop := fun g N H o v => ∃ p h, v = .ref p ∧ H p = some h ∧ ObR Z g N o h ∧ g.G p = none ∧ g.ow p = none ∧ Fo p = none
abbrev Po (g : Gh) (N : Nat) (σ : L2.St) (Q : V → Hp → Prop) (r : Res D) : Prop := Pg Z Fo W (RD Z) g N σ Q r
def tE (f : Mo D) : TE := fun σ H Q => ∃ g m, Good Z Fo g m σ H ∧ Pg Z Fo W (RD Z) g m.S.length σ Q (f m)
def tT (f : Mo Bool) : TT := fun σ H Q => ∃ g m, Good Z Fo g m σ H ∧ Pg Z Fo W RB g m.S.length σ Q (f m)
def tN (f : Mo Ob) : TE := fun σ H Q => ∃ g m, Good Z Fo g m σ H ∧ Pg Z Fo W (RN Z Fo) g m.S.length σ Q (f m)
def tL (f : Mo (List D)) : TA := fun σ H Q => ∃ g m, Good Z Fo g m σ H ∧ Pg Z Fo W (RDs Z) g m.S.length σ Q (f m)
end
end LB

namespace LB
open PySem L2

/-! ### a name: as a value it lets go of what it owns -/
def evV (i : Nat) : Mo D := fun m => match m.ρ[i]? with
  | some (.va d) => .ok d m
  | some (.own o) => .ok o.d { m with ρ := m.ρ.set i (.va o.d) }
  | _ => .no
/-- a name looked at where it stands -/
def pkV (i : Nat) (m : Mst) : Option D := match m.ρ[i]? with
  | some (.va d) => some d
  | some (.own o) => some o.d
  | _ => none
/-- a list, a dict of the store, as it stands -/
def look (m : Mst) : D → D
  | .ref n => match m.S[n]? with
    | some (.ob o) => o.d
    | _ => .ref n
  | d => d

section
variable {Z : Stc} {Fo : Hp} {W : WX} {g g' : Gh} {m m' : Mst} {σ : L2.St} {H : Hp} {Q : V → Hp → Prop} {N N' : Nat}

theorem ObR.ext {o : Ob} {h : HO} (x : ObR Z g N o h) (e : Ext Fo g N g' N') : ObR Z g' N' o h := by
  cases o with
  | lst ds => obtain ⟨vs, rfl, r⟩ := x; exact ⟨vs, rfl, r.mor e.mor⟩
  | dct t kvs =>
    cases t with
    | false => obtain ⟨vs, rfl, r⟩ := x; exact ⟨vs, rfl, r.mor e.mor⟩
    | true => obtain ⟨vs, rfl, r⟩ := x; exact ⟨vs, rfl, r.mor e.mor⟩
theorem FsR.ext (e : Ext Fo g N g' N') : ∀ {fs : List (Str × D)} {fv : List (Str × V)}, FsR Z g N fs fv → FsR Z g' N' fs fv
  | [], [], _ => trivial
  | (_, _) :: _, (_, _) :: _, ⟨h1, h2, h3⟩ => ⟨h1, h2.ext e, FsR.ext e h3⟩
  | [], _ :: _, h => h.elim
  | _ :: _, [], h => h.elim
/-- what an object holds, once it stays -/
theorem ObR.dv {o : Ob} {h : HO} {a : Addr} (x : ObR Z g N o h) (e : g.G a = some h) : DV Z g.G g.μ N o.d (.ref a) := by
  cases o with
  | lst ds => obtain ⟨vs, rfl, r⟩ := x; exact .lst (.inl e) r
  | dct t kvs =>
    cases t with
    | false => obtain ⟨vs, rfl, r⟩ := x; exact .dk e r
    | true => obtain ⟨vs, rfl, r⟩ := x; exact .dt e r
section
variable {α β γ δ : Type} {R : Gh → Nat → Hp → α → β → Prop} {R' : Gh → Nat → Hp → γ → δ → Prop}
theorem Pg.imp {r : Res α} {Q Q' : β → Hp → Prop} (h : Pg Z Fo W R g N σ Q r) (q : ∀ v H, Q v H → Q' v H) : Pg Z Fo W R g N σ Q' r := by
  cases r with
  | ok d m => exact fun v H g' G E R => q _ _ (h v H g' G E R)
  | exc x m => exact h
  | no => exact h
theorem Pg.on {r : Res α} {Q : β → Hp → Prop} (h : Pg Z Fo W R g N σ Q r) (e : Ext Fo g N g' N') : Pg Z Fo W R g' N' σ Q r := by
  cases r with
  | ok d m => exact fun v H g2 G E R => h v H g2 G (e.trans E) R
  | exc x m => exact fun c dd H g2 G E R => h c dd H g2 G (e.trans E) R
  | no => exact h
/-- one behind the other -/
theorem Pg.bind {r : Res α} {f : α → Mo γ} {Q : δ → Hp → Prop} (h : Pg Z Fo W R' g N σ Q (r.bind f)) :
    Pg Z Fo W R g N σ (fun v H => ∃ d g' m', Good Z Fo g' m' σ H ∧ Ext Fo g N g' m'.S.length ∧ R g' m'.S.length H d v ∧ r = .ok d m' ∧ Pg Z Fo W R' g' m'.S.length σ Q (f d m')) r := by
  cases r with
  | ok d m => exact fun v H g' G E R => ⟨d, g', m, G, E, R, rfl, Pg.on h E⟩
  | exc x m => exact h
  | no => exact h
end

/-- an owned object stays from now on -/
def Gh.keep (g : Gh) (a : Addr) (h : HO) : Gh := { g with G := upd g.G a h, ow := fun b => if b = a then none else g.ow b }
theorem Gh.keep_ext {a : Addr} {h : HO} (n : g.G a = none) (f : Fo a = none) : Ext Fo g N (g.keep a h) N :=
  ⟨⟨fun b o e => by
      show upd g.G a h b = some o
      rw [upd_ne (ne_of_none e n)]
      exact e, fun _ _ => rfl, Nat.le_refl _⟩, fun b o e => by
    by_cases q : b = a
    · exact .inr (q ▸ f)
    · exact .inl (by rw [← upd_ne (H := g.G) (o := h) q]; exact e)⟩
theorem GoodS.keep {S : List SO} {a : Addr} {h : HO} (G : GoodS Z Fo g S H) (n : g.G a = none) (f : Fo a = none) (e : H a = some h) (nl : ∀ k, g.ow a ≠ some (.lo k)) (nd : ∀ k, g.ow a ≠ some (.di k)) : GoodS Z Fo (g.keep a h) S H := by
  have E : Ext Fo g S.length (g.keep a h) S.length := Gh.keep_ext n f
  refine ⟨fun b o q => ?_, G.fo, fun k o q => ?_, fun b w q => ?_⟩
  · by_cases z : b = a
    · subst z
      have q' : upd g.G b h b = some o := q
      rw [upd_same] at q'
      rw [e, q']
    · exact G.gh b o (by rw [← upd_ne (H := g.G) (o := h) z]; exact q)
  · have x := G.st k o q
    cases o with
    | ob o =>
      obtain ⟨h', x1, x2, x3⟩ := x
      exact ⟨h', by show (if g.μ k = a then none else g.ow (g.μ k)) = _; rw [if_neg (fun z : g.μ k = a => nl k (z ▸ x1))]; exact x1, x2, x3.ext E⟩
    | ins c fs =>
      obtain ⟨C, dx, fs', x1, x2, x3, x4, x5, x6⟩ := x
      refine ⟨C, dx, fs', ?_, x2, x3, x4, ?_, x6.ext E⟩
      · show (if g.μ k = a then none else g.ow (g.μ k)) = _
        rw [if_neg (fun z : g.μ k = a => nl k (z ▸ x1))]; exact x1
      · show (if dx = a then none else g.ow dx) = _
        rw [if_neg (fun z : dx = a => nd k (z ▸ x5))]; exact x5
  · have q' : (if b = a then none else g.ow b) = some w := q
    by_cases z : b = a
    · rw [if_pos z] at q'; cases q'
    · rw [if_neg z] at q'
      obtain ⟨y1, y2, y3⟩ := G.ow b w q'
      exact ⟨by show upd g.G a h b = none; rw [upd_ne z]; exact y1, y2, y3⟩
theorem rd_var {i : Nat} (h : tE Z Fo W (evV i) σ H Q) : tVar i σ H Q := by
  obtain ⟨g, m, G, h⟩ := h
  unfold evV at h
  cases e : m.ρ[i]? with
  | none => rw [e] at h; exact h.elim
  | some s =>
    rw [e] at h
    have x := G.sl i s e
    cases s with
    | un => exact h.elim
    | va d =>
      obtain ⟨v, e1, r⟩ := x
      exact ⟨v, e1, h v H g G .rfl' r⟩
    | own o =>
      obtain ⟨a, u, e1, w1, e2, r⟩ := x
      obtain ⟨n, f, _⟩ := G.s.ow a _ w1
      have E : Ext Fo g m.S.length (g.keep a u) m.S.length := Gh.keep_ext n f
      have dv : DV Z (g.keep a u).G (g.keep a u).μ m.S.length o.d (.ref a) := (r.ext E).dv (show upd g.G a u a = some u from upd_same)
      refine ⟨.ref a, e1, h (.ref a) H (g.keep a u) ⟨G.s.keep n f e2 (fun k z => by rw [w1] at z; cases z) (fun k z => by rw [w1] at z; cases z), by simpa using G.len, fun j s' e' => ?_⟩ E dv⟩
      by_cases z : i = j
      · subst z
        rw [List.getElem?_set_self (by exact (List.getElem?_eq_some_iff.mp e).1)] at e'
        cases e'
        exact ⟨.ref a, e1, dv⟩
      · rw [List.getElem?_set_ne z] at e'
        have x' := G.sl j s' e'
        cases s' with
        | un => trivial
        | va d =>
          obtain ⟨v, q1, q2⟩ := x'
          exact ⟨v, q1, q2.ext E⟩
        | own o' =>
          obtain ⟨a', u', q1, q2, q3, q4⟩ := x'
          refine ⟨a', u', q1, ?_, q3, q4.ext E⟩
          show (if a' = a then none else g.ow a') = _
          rw [if_neg (fun y => by rw [y, w1] at q2; cases q2; exact z rfl)]
          exact q2

/-! ### operands: looked at only -/
/-- a datum as it can be looked at now -/
def PV (Z : Stc) (g : Gh) (N : Nat) (H : Hp) (d : D) (v : V) : Prop := DV Z g.G g.μ N d v ∨ ∃ a h o, v = .ref a ∧ H a = some h ∧ d = Ob.d o ∧ ObR Z g N o h
theorem pv_look {d : D} {v : V} (G : Good Z Fo g m σ H) (r : DV Z g.G g.μ m.S.length d v) : PV Z g m.S.length H (look m d) v := by
  cases d with
  | ref n =>
    show PV Z g m.S.length H (match m.S[n]? with | some (.ob o) => o.d | _ => .ref n) v
    cases e : m.S[n]? with
    | none => exact .inl r
    | some s =>
      cases s with
      | ins c fs => exact .inl r
      | ob o =>
        obtain ⟨h, x1, x2, x3⟩ := G.s.st n _ e
        cases r with
        | ref q => exact .inr ⟨_, h, o, rfl, x2, rfl, x3⟩
  | _ => exact .inl r
theorem pv_slot {i : Nat} {d : D} {v : V} (G : Good Z Fo g m σ H) (e : pkV i m = some d) (ev : σ[i]? = some (some v)) : PV Z g m.S.length H (look m d) v := by
  unfold pkV at e
  cases e1 : m.ρ[i]? with
  | none => rw [e1] at e; cases e
  | some s =>
    rw [e1] at e
    have x := G.sl i s e1
    cases s with
    | un => cases e
    | va d' =>
      cases e
      obtain ⟨v', q1, q2⟩ := x
      rw [ev] at q1
      cases q1
      exact pv_look G q2
    | own o =>
      cases e
      obtain ⟨a, h, q1, q2, q3, q4⟩ := x
      rw [ev] at q1
      cases q1
      refine .inr ⟨a, h, o, rfl, q3, ?_, q4⟩
      cases o <;> rfl

/-- an operand: a name's place, or what is reckoned -/
abbrev Opd := Option Nat × Mo D
def tO (Z : Stc) (Fo : Hp) (W : WX) (o : Opd) : TE := match o.1 with
  | some i => tVar i
  | none => tE Z Fo W o.2
def Opd.pre (o : Opd) : Mo D := match o.1 with
  | some i => fun m => match pkV i m with
    | some _ => .ok .non m
    | none => .no
  | none => o.2
def Opd.get (o : Opd) (d : D) (m : Mst) : Option D := match o.1 with
  | some i => (pkV i m).map (look m)
  | none => some (look m d)
def opd1 {γ : Type} (a : Opd) (op : D → Mo γ) : Mo γ := fun m => (a.pre m).bind fun x m => match a.get x m with
  | some d => op d m
  | none => .no
def opd2 {γ : Type} (a b : Opd) (op : D → D → Mo γ) : Mo γ := fun m => (a.pre m).bind fun x m => (b.pre m).bind fun y m => match a.get x m, b.get y m with
  | some d, some e => op d e m
  | _, _ => .no
section
variable {γ δ : Type} {R' : Gh → Nat → Hp → γ → δ → Prop} {P : δ → Hp → Prop}
/-- the operand's pass: afterwards its value can be looked at in any later state -/
theorem opd_pass {o : Opd} {f : D → Mo γ} {R : V → Hp → Prop} (G : Good Z Fo g m σ H) (h : Pg Z Fo W R' g m.S.length σ P ((o.pre m).bind f))
    (k : ∀ v H' d g' m', Good Z Fo g' m' σ H' → Ext Fo g m.S.length g' m'.S.length → Pg Z Fo W R' g' m'.S.length σ P (f d m') →
      (∀ g2 m2 H2 e, Good Z Fo g2 m2 σ H2 → Ext Fo g' m'.S.length g2 m2.S.length → o.get d m2 = some e → PV Z g2 m2.S.length H2 e v) → R v H') : tO Z Fo W o σ H R := by
  obtain ⟨oi, fo⟩ := o
  cases oi with
  | none =>
    refine ⟨g, m, G, (Pg.bind (R := RD Z) h).imp fun v H' ⟨d, g', m', G', E, r, _, p⟩ => k v H' d g' m' G' E p fun g2 m2 H2 e G2 E2 q => ?_⟩
    cases q
    exact pv_look G2 (r.ext E2)
  | some i =>
    have h' : Pg Z Fo W R' g m.S.length σ P ((match pkV i m with | some _ => Res.ok D.non m | none => Res.no).bind f) := h
    cases e : pkV i m with
    | none => rw [e] at h'; exact h'.elim
    | some d0 =>
      rw [e] at h'
      have hv : ∃ v, σ[i]? = some (some v) := by
        unfold pkV at e
        cases e1 : m.ρ[i]? with
        | none => rw [e1] at e; cases e
        | some s =>
          rw [e1] at e
          have x := G.sl i s e1
          cases s with
          | un => cases e
          | va d' => obtain ⟨v', q1, q2⟩ := x; exact ⟨v', q1⟩
          | own o => obtain ⟨a, h, q1, q2, q3, q4⟩ := x; exact ⟨_, q1⟩
      obtain ⟨v, ev⟩ := hv
      refine ⟨v, ev, k v H .non g m G .rfl' h' fun g2 m2 H2 e2 G2 E2 q => ?_⟩
      have q' : (pkV i m2).map (look m2) = some e2 := q
      cases e3 : pkV i m2 with
      | none => rw [e3] at q'; cases q'
      | some d3 =>
        rw [e3] at q'
        cases q'
        exact pv_slot G2 e3 ev
theorem rd_opd1 {a : Opd} {op : D → Mo γ} {r : V → Hp → Prop} (G : Good Z Fo g m σ H) (h : Pg Z Fo W R' g m.S.length σ P (opd1 a op m))
    (hop : ∀ g' m' H x d, Good Z Fo g' m' σ H → Ext Fo g m.S.length g' m'.S.length → PV Z g' m'.S.length H d x → Pg Z Fo W R' g' m'.S.length σ P (op d m') → r x H) : tO Z Fo W a σ H r := by
  refine opd_pass G h fun v H' d g' m' G' E p pv => ?_
  cases e : a.get d m' with
  | none => simp only [e] at p; exact p.elim
  | some x =>
    simp only [e] at p
    exact hop g' m' H' v x G' E (pv g' m' H' x G' .rfl' e) p
theorem rd_opd2 {a b : Opd} {op : D → D → Mo γ} {r : V → V → Hp → Prop} (G : Good Z Fo g m σ H) (h : Pg Z Fo W R' g m.S.length σ P (opd2 a b op m))
    (hop : ∀ g' m' H x y d e, Good Z Fo g' m' σ H → Ext Fo g m.S.length g' m'.S.length → PV Z g' m'.S.length H d x → PV Z g' m'.S.length H e y → Pg Z Fo W R' g' m'.S.length σ P (op d e m') → r x y H) :
    tO Z Fo W a σ H fun x H1 => tO Z Fo W b σ H1 fun y H2 => r x y H2 := by
  refine opd_pass G h fun v H' d g' m' G' E p pv => opd_pass G' p fun v2 H2 d2 g2 m2 G2 E2 p2 pv2 => ?_
  cases e : a.get d m2 with
  | none => simp only [e] at p2; exact p2.elim
  | some x =>
    cases e2 : b.get d2 m2 with
    | none => simp only [e, e2] at p2; exact p2.elim
    | some y =>
      simp only [e, e2] at p2
      exact hop g2 m2 H2 v v2 x y G2 (E.trans E2) (pv g2 m2 H2 x G2 E2 e) (pv2 g2 m2 H2 y G2 .rfl' e2) p2
end

/-! ### something new -/
theorem Good.fresh (G : Good Z Fo g m σ H) {p : Addr} {o : HO} (n : H p = none) : Good Z Fo g m σ (upd H p o) := by
  have ne : ∀ {b : Addr} {u : HO}, H b = some u → upd H p o b = some u := fun {b u} e => by
    rw [upd_ne (ne_of_none e n)]
    exact e
  refine ⟨⟨fun a u q => ne (G.s.gh a u q), fun a u q => ne (G.s.fo a u q), fun k s q => ?_, fun a w q => ?_⟩, G.len, fun i s q => ?_⟩
  · have x := G.s.st k s q
    cases s with
    | ob o => obtain ⟨h, x1, x2, x3⟩ := x; exact ⟨h, x1, ne x2, x3⟩
    | ins c fs => obtain ⟨C, dx, fs', x1, x2, x3, x4, x5, x6⟩ := x; exact ⟨C, dx, fs', x1, x2, ne x3, ne x4, x5, x6⟩
  · obtain ⟨y1, y2, u, y3⟩ := G.s.ow a w q
    exact ⟨y1, y2, u, ne y3⟩
  · have x := G.sl i s q
    cases s with
    | un => trivial
    | va d => exact x
    | own o => obtain ⟨a, h, x1, x2, x3, x4⟩ := x; exact ⟨a, h, x1, x2, ne x3, x4⟩
theorem Good.free (G : Good Z Fo g m σ H) {p : Addr} (n : H p = none) : g.G p = none ∧ g.ow p = none ∧ Fo p = none := by
  refine ⟨?_, ?_, ?_⟩
  · cases e : g.G p with
    | none => rfl
    | some o => rw [G.s.gh p o e] at n; cases n
  · cases e : g.ow p with
    | none => rfl
    | some o => obtain ⟨_, _, u, y⟩ := G.s.ow p o e; rw [y] at n; cases n
  · cases e : Fo p with
    | none => rfl
    | some o => rw [G.s.fo p o e] at n; cases n
/-- a thing of nobody's stays from now on -/
theorem Good.stay (G : Good Z Fo g m σ H) {p : Addr} {h : HO} (n : g.G p = none) (w : g.ow p = none) (f : Fo p = none) (e : H p = some h) : Good Z Fo (g.keep p h) m σ H := by
  have E : Ext Fo g m.S.length (g.keep p h) m.S.length := Gh.keep_ext n f
  refine ⟨G.s.keep n f e (fun k z => by rw [w] at z; cases z) (fun k z => by rw [w] at z; cases z), G.len, fun i s q => ?_⟩
  have x := G.sl i s q
  cases s with
  | un => trivial
  | va d =>
    obtain ⟨v, q1, q2⟩ := x
    exact ⟨v, q1, q2.ext E⟩
  | own o' =>
    obtain ⟨a', u', q1, q2, q3, q4⟩ := x
    refine ⟨a', u', q1, ?_, q3, q4.ext E⟩
    show (if a' = p then none else g.ow a') = _
    rw [if_neg (fun y => by rw [y, w] at q2; cases q2)]
    exact q2
/-- a new thing that stays -/
theorem Good.laid (G : Good Z Fo g m σ H) {p : Addr} {h : HO} (n : H p = none) : Good Z Fo (g.keep p h) m σ (upd H p h) ∧ Ext Fo g m.S.length (g.keep p h) m.S.length := by
  obtain ⟨f1, f2, f3⟩ := G.free n
  exact ⟨(G.fresh n).stay f1 f2 f3 upd_same, Gh.keep_ext f1 f3⟩
/-- what is new is told, and stays -/
theorem rd_new {f : Mo Ob} (h : tE Z Fo W (f.bind fun o => .ret o.d) σ H Q) : tN Z Fo W f σ H Q := by
  obtain ⟨g, m, G, h⟩ := h
  refine ⟨g, m, G, (Pg.bind (R := RN Z Fo) h).imp fun v H' ⟨o, g', m', G', E, ⟨p, u, ev, e, r, n, w, fo⟩, _, q⟩ => ?_⟩
  subst ev
  have E' : Ext Fo g' m'.S.length (g'.keep p u) m'.S.length := Gh.keep_ext n fo
  exact q (.ref p) H' (g'.keep p u) (G'.stay n w fo e) E' ((r.ext E').dv (show upd g'.G p u p = some u from upd_same))
end
end LB

namespace LB
open PySem L2

section
variable {Z : Stc} {Fo : Hp} {W : WX} {g g' : Gh} {m m' : Mst} {σ : L2.St} {H : Hp} {Q : V → Hp → Prop} {N N' : Nat}
/-! ### what an operand is -/
theorem PV.lst {ds : List D} {v : V} (G : Good Z Fo g m σ H) (r : PV Z g m.S.length H (.lst ds) v) : ∃ a vs, v = .ref a ∧ Rd H a (.lst vs) ∧ DVs Z g.G g.μ m.S.length ds vs := by
  rcases r with r | ⟨a, h, o, rfl, e, eo, r⟩
  · cases r with
    | lst h r => exact ⟨_, _, rfl, rd_mor G.s.gh h, r⟩
  · cases o with
    | lst ds' =>
      cases eo
      obtain ⟨vs, rfl, r⟩ := r
      exact ⟨a, vs, rfl, .inl e, r⟩
    | dct t k => cases eo
theorem PV.tup' {ds : List D} {v : V} (G : Good Z Fo g m σ H) (r : PV Z g m.S.length H (.tup ds) v) : ∃ a vs, v = .ref a ∧ H a = some (.tup vs) ∧ g.G a = some (.tup vs) ∧ DVs Z g.G g.μ m.S.length ds vs := by
  rcases r with r | ⟨a, h, o, rfl, e, eo, r⟩
  · cases r with
    | tup h r => exact ⟨_, _, rfl, G.s.gh _ _ h, h, r⟩
  · cases o <;> cases eo
theorem PV.tup {ds : List D} {v : V} (G : Good Z Fo g m σ H) (r : PV Z g m.S.length H (.tup ds) v) : ∃ a vs, v = .ref a ∧ SqT Z.K H a vs ∧ g.G a = some (.tup vs) ∧ DVs Z g.G g.μ m.S.length ds vs := by
  obtain ⟨a, vs, e, h, q, r⟩ := r.tup' G
  exact ⟨a, vs, e, .inl (.inl h), q, r⟩
theorem PV.ktp {ds : List D} {v : V} (G : Good Z Fo g m σ H) (r : PV Z g m.S.length H (.ktp ds) v) : ∃ a vs, v = .ref a ∧ SqT Z.K H a vs ∧ DVs Z g.G g.μ m.S.length ds vs := by
  rcases r with r | ⟨a, h, o, rfl, e, eo, r⟩
  · cases r with
    | ktp h r => exact ⟨_, _, rfl, sqT_mor G.s.gh h, r⟩
  · cases o <;> cases eo
theorem PV.int {i : Int} {v : V} (r : PV Z g N H (.int i) v) : v = .int i := by
  rcases r with r | ⟨a, h, o, rfl, e, eo, r⟩
  · cases r; rfl
  · cases o <;> cases eo
theorem PV.str {i : Str} {v : V} (r : PV Z g N H (.str i) v) : v = .str i := by
  rcases r with r | ⟨a, h, o, rfl, e, eo, r⟩
  · cases r; rfl
  · cases o <;> cases eo
theorem PV.bl {i : Bool} {v : V} (r : PV Z g N H (.bl i) v) : v = .bl i := by
  rcases r with r | ⟨a, h, o, rfl, e, eo, r⟩
  · cases r; rfl
  · cases o <;> cases eo
theorem PV.non {v : V} (r : PV Z g N H .non v) : v = .non := by
  rcases r with r | ⟨a, h, o, rfl, e, eo, r⟩
  · cases r; rfl
  · cases o <;> cases eo
/-- an operand that isn't a mutable object is a value -/
theorem PV.dv {d : D} {v : V} (r : PV Z g N H d v) (n : ∀ o : Ob, d ≠ o.d) : DV Z g.G g.μ N d v := by
  rcases r with r | ⟨a, h, o, _, _, eo, _⟩
  · exact r
  · exact absurd eo (n o)
/-- an operand with a nature as data -/
theorem DV.dp {K : PySem.W.Frag} (hK : Z.K = K) (gh : ∀ a o, g.G a = some o → H a = some o) : ∀ {d : D} {v : V}, DV Z g.G g.μ N d v → d.toP.canLay0 = true → Dp K H v d.toP := by
  subst hK
  intro d v r
  exact DV.rec (motive_1 := fun d v _ => d.toP.canLay0 = true → Dp Z.K H v d.toP) (motive_2 := fun ds vs _ => PyData.canLayAll0 (D.toPs ds) = true → DpAll Z.K H vs (D.toPs ds)) (motive_3 := fun _ _ _ => True) (motive_4 := fun _ _ _ => True) (motive_5 := fun _ _ _ => True)
    (fun _ => .non) (fun b _ => .bl b) (fun i _ => .int i) (fun x _ => .str x)
    (fun h _ ih c => .tup (.inl (.inl (gh _ _ h))) (ih (by simpa [D.toP, PyData.canLay0] using c)))
    (fun h _ ih c => .tup (sqT_mor gh h) (ih (by simpa [D.toP, PyData.canLay0] using c)))
    (fun h _ ih c => .lst (.inl (rd_mor gh h)) (ih (by simpa [D.toP, PyData.canLay0] using c)))
    (fun _ _ _ c => by simp [D.toP, PyData.canLay0] at c) (fun _ _ _ c => by simp [D.toP, PyData.canLay0] at c) (fun _ _ _ c => by simp [D.toP, PyData.canLay0] at c) (fun _ c => by simp [D.toP, PyData.canLay0] at c) (fun _ c => by simp [D.toP, PyData.canLay0] at c) (fun _ _ c => by simp [D.toP, PyData.canLay0] at c) (fun _ _ _ _ _ c => by simp [D.toP, PyData.canLay0] at c)
    (fun _ => .nil) (fun _ _ ih1 ih2 c => by
      simp only [D.toPs, PyData.canLayAll0, Bool.and_eq_true] at c
      exact .cons (ih1 c.1) (ih2 c.2))
    trivial (fun _ _ _ _ _ => trivial) trivial (fun _ _ _ _ _ => trivial) trivial (fun _ _ _ _ _ => trivial) r
theorem DVs.dp {K : PySem.W.Frag} (hK : Z.K = K) (gh : ∀ a o, g.G a = some o → H a = some o) : ∀ {d : List D} {v : List V}, DVs Z g.G g.μ N d v → PyData.canLayAll0 (D.toPs d) = true → DpAll K H v (D.toPs d)
  | _, _, .nil, _ => .nil
  | _, _, .cons h r, c => by
    simp only [D.toPs, PyData.canLayAll0, Bool.and_eq_true] at c
    exact .cons (DV.dp hK gh h c.1) (DVs.dp hK gh r c.2)
theorem PV.dp {d : D} {v : V} (G : Good Z Fo g m σ H) (r : PV Z g m.S.length H d v) (c : d.toP.canLay0 = true) : Dp Z.K H v d.toP := by
  rcases r with r | ⟨a, h, o, rfl, e, eo, r⟩
  · exact DV.dp rfl G.s.gh r c
  · subst eo
    cases o with
    | lst ds =>
      obtain ⟨vs, rfl, r⟩ := r
      exact .lst (.inl (.inl e)) (DVs.dp rfl G.s.gh r (by simpa [Ob.d, D.toP, PyData.canLay0] using c))
    | dct t k => simp [Ob.d, D.toP, PyData.canLay0] at c

/-! ### + - * and so on -/
inductive BOp where
  | add | sub | mul | mod | fdiv | pow | band | bor | bxor | shl | shr
def BOp.op : BOp → Operator
  | .add => .Add | .sub => .Sub | .mul => .Mult | .mod => .Mod | .fdiv => .FloorDiv | .pow => .Pow | .band => .BitAnd | .bor => .BitOr | .bxor => .BitXor | .shl => .LShift | .shr => .RShift
def MulOk (i j : Int) : Prop := (i.natAbs < 2 ^ 64 ∨ j.natAbs < 2 ^ 64) ∨ (i.natAbs < 2 ^ 4000 ∧ j.natAbs < 2 ^ 4000)
instance (i j : Int) : Decidable (MulOk i j) := inferInstanceAs (Decidable (_ ∨ _))
def DivOk (j : Int) : Prop := 0 < j ∧ (j < 1073741824 ∨ j.natAbs < 2 ^ 4000)
instance (j : Int) : Decidable (DivOk j) := inferInstanceAs (Decidable (_ ∧ _))
def PowOk (i j : Int) : Prop := 0 ≤ j ∧ j ≤ 1000000 ∧ i.natAbs < 2 ^ 64
instance (i j : Int) : Decidable (PowOk i j) := inferInstanceAs (Decidable (_ ∧ _))
def bopM : BOp → D → D → Mo D
  | .add, .int i, .int j => .ret (.int (i + j))
  | .add, .str x, .str y => fun m => if x.length + y.length ≤ sizeLine then .ok (.str (x ++ y)) m else .no
  | .add, .tup x, .tup y => fun m => if x.length + y.length ≤ sizeLine then .ok (.tup (x ++ y)) m else .no
  | .sub, .int i, .int j => .ret (.int (i - j))
  | .mul, .int i, .int j => fun m => if MulOk i j then .ok (.int (i * j)) m else .no
  | .mul, .tup x, .int k => fun m => if x ≠ [] ∧ 2 ≤ k ∧ k ≤ 1000 ∧ x.length ≤ 1000 then .ok (.tup (List.replicate k.toNat x).flatten) m else .no
  | .mod, .int i, .int j => fun m => if 0 < j then .ok (.int (i % j)) m else .no
  | .fdiv, .int i, .int j => fun m => if DivOk j then .ok (.int (i / j)) m else .no
  | .pow, .int i, .int j => fun m => if PowOk i j then .ok (.int (i ^ j.toNat)) m else .no
  | .band, .int i, .int j => .ret (.int (Builtin.bitAnd i j))
  | .bor, .int i, .int j => .ret (.int (Builtin.bitOr i j))
  | .bxor, .int i, .int j => .ret (.int (Builtin.bitXor i j))
  | .shl, .int i, .int j => fun m => if PowOk i j then .ok (.int (i * 2 ^ j.toNat)) m else .no
  | .shr, .int i, .int j => fun m => if 0 ≤ j then .ok (.int (i / 2 ^ j.toNat)) m else .no
  | _, _, _ => .no
/-- list + list, list * int: something new -/
def bopN : BOp → D → D → Mo Ob
  | .add, .lst x, .lst y => fun m => if x.length + y.length ≤ sizeLine then .ok (.lst (x ++ y)) m else .no
  | .mul, .lst x, .int k => fun m => if 0 ≤ k ∧ k < 2 ^ 63 ∧ x.length * k.toNat ≤ sizeLine then .ok (.lst (List.replicate k.toNat x).flatten) m else .no
  | _, _, _ => .no

/-- a rule over what two operands are -/
def rM {γ δ : Type} (Z : Stc) (Fo : Hp) (W : WX) (R : Gh → Nat → Hp → γ → δ → Prop) (f : D → D → Mo γ) (x y : V) (H : Hp) (Q : δ → Hp → Prop) : Prop :=
  ∃ g m σ d e, Good Z Fo g m σ H ∧ PV Z g m.S.length H d x ∧ PV Z g m.S.length H e y ∧ Pg Z Fo W R g m.S.length σ Q (f d e m)
def rM1 {γ δ : Type} (Z : Stc) (Fo : Hp) (W : WX) (R : Gh → Nat → Hp → γ → δ → Prop) (f : D → Mo γ) (x : V) (H : Hp) (Q : δ → Hp → Prop) : Prop :=
  ∃ g m σ d, Good Z Fo g m σ H ∧ PV Z g m.S.length H d x ∧ Pg Z Fo W R g m.S.length σ Q (f d m)
end
theorem _root_.L2.PE.imp {X : Cx} {e : Expr} {t t' : TE} (h : PE X e t) (q : ∀ σ H Q, t' σ H Q → t σ H Q) : PE X e t' := ⟨fun pins s σ H Q I k => h.run pins s σ H Q I (q σ H Q k)⟩
theorem _root_.L2.PT.imp {X : Cx} {e : Expr} {t t' : TT} (h : PT X e t) (q : ∀ σ H Q, t' σ H Q → t σ H Q) : PT X e t' := ⟨fun pins s σ H Q I k => h.run pins s σ H Q I (q σ H Q k)⟩
theorem _root_.L2.PA.imp {X : Cx} {e : List Expr} {t t' : TA} (h : PA X e t) (q : ∀ σ H Q, t' σ H Q → t σ H Q) : PA X e t' := ⟨fun pos pins s σ H Q I k => h.run pos pins s σ H Q I (q σ H Q k)⟩
section
variable {Z : Stc} {Fo : Hp} {W : WX} {X : Cx}
theorem flat_rep {g : Gh} {N : Nat} {ds : List D} {vs : List V} (h : DVs Z g.G g.μ N ds vs) : ∀ k : Nat, DVs Z g.G g.μ N (List.replicate k ds).flatten (List.replicate k vs).flatten
  | 0 => .nil
  | k + 1 => by rw [List.replicate_succ, List.replicate_succ, List.flatten_cons, List.flatten_cons]; exact h.append (flat_rep h k)
theorem bop_rule (hK : X.K = Z.K) (o : BOp) : OpR X (binaryOp o.op) (rM Z Fo W (RD Z) (bopM o)) := by
  intro pins s σ H x y v u Q I rx ry ⟨g, m, σ', d, e, G, pd, pe, h⟩
  have new : ∀ {xs : List D} {vs : List V}, DVs Z g.G g.μ m.S.length xs vs → Pg Z Fo W (RD Z) g m.S.length σ' Q (.ok (.tup xs) m) → ∀ p, H p = none → Q (.ref p) (upd H p (.tup vs)) := fun {xs vs} r h p n => by
    obtain ⟨G2, E2⟩ := G.laid (h := .tup vs) n
    exact h _ _ _ G2 E2 (.tup (show upd g.G p _ p = _ from upd_same) (r.ext E2))
  have i2 : ∀ {i j k : Int}, Pg Z Fo W (RD Z) g m.S.length σ' Q (.ok (.int k) m) → Q (.int k) H := fun h => h _ _ _ G .rfl' (.int _)
  match o, d, e, h with
  | .add, .int i, .int j, h => exact op_add pins s σ H x y v u Q I rx ry ⟨i, j, pd.int, pe.int, i2 (i := i) (j := j) h⟩
  | .sub, .int i, .int j, h => exact op_sub pins s σ H x y v u Q I rx ry ⟨i, j, pd.int, pe.int, i2 (i := i) (j := j) h⟩
  | .band, .int i, .int j, h => exact op_and pins s σ H x y v u Q I rx ry ⟨i, j, pd.int, pe.int, i2 (i := i) (j := j) h⟩
  | .bor, .int i, .int j, h => exact op_or pins s σ H x y v u Q I rx ry ⟨i, j, pd.int, pe.int, i2 (i := i) (j := j) h⟩
  | .bxor, .int i, .int j, h => exact op_xor pins s σ H x y v u Q I rx ry ⟨i, j, pd.int, pe.int, i2 (i := i) (j := j) h⟩
  | .mul, .int i, .int j, h =>
    by_cases c : MulOk i j
    · simp only [bopM, if_pos c] at h
      rcases c with c | ⟨c1, c2⟩
      · exact op_mul pins s σ H x y v u Q I rx ry ⟨i, j, pd.int, pe.int, c.imp (fun c => by omega) (fun c => by omega), i2 (i := i) (j := j) h⟩
      · exact op_mulW pins s σ H x y v u Q I rx ry ⟨i, j, pd.int, pe.int, wide_mul c1 c2 (by decide) (by decide) (by decide), i2 (i := i) (j := j) h⟩
    · simp only [bopM, if_neg c] at h
      exact h.elim
  | .mod, .int i, .int j, h =>
    by_cases c : 0 < j
    · simp only [bopM, if_pos c] at h
      exact op_mod pins s σ H x y v u Q I rx ry ⟨i, j, pd.int, pe.int, c, i2 (i := i) (j := j) h⟩
    · simp only [bopM, if_neg c] at h
      exact h.elim
  | .fdiv, .int i, .int j, h =>
    by_cases c : DivOk j
    · simp only [bopM, if_pos c] at h
      obtain ⟨c0, c1 | c2⟩ := c
      · exact op_fdiv pins s σ H x y v u Q I rx ry ⟨i, j, pd.int, pe.int, ⟨c0, c1⟩, i2 (i := i) (j := j) h⟩
      · exact op_fdivW pins s σ H x y v u Q I rx ry ⟨i, j, pd.int, pe.int, wide_div c0 c2 (by decide) (by decide), i2 (i := i) (j := j) h⟩
    · simp only [bopM, if_neg c] at h
      exact h.elim
  | .pow, .int i, .int j, h =>
    by_cases c : PowOk i j
    · simp only [bopM, if_pos c] at h
      exact op_pow pins s σ H x y v u Q I rx ry ⟨i, j, pd.int, pe.int, c, i2 (i := i) (j := j) h⟩
    · simp only [bopM, if_neg c] at h
      exact h.elim
  | .shl, .int i, .int j, h =>
    by_cases c : PowOk i j
    · simp only [bopM, if_pos c] at h
      exact op_shl pins s σ H x y v u Q I rx ry ⟨i, j, pd.int, pe.int, c, i2 (i := i) (j := j) h⟩
    · simp only [bopM, if_neg c] at h
      exact h.elim
  | .shr, .int i, .int j, h =>
    by_cases c : 0 ≤ j
    · simp only [bopM, if_pos c] at h
      exact op_shr pins s σ H x y v u Q I rx ry ⟨i, j, pd.int, pe.int, c, i2 (i := i) (j := j) h⟩
    · simp only [bopM, if_neg c] at h
      exact h.elim
  | .add, .str i, .str j, h =>
    by_cases c : i.length + j.length ≤ sizeLine
    · simp only [bopM, if_pos c] at h
      exact op_add_str pins s σ H x y v u Q I rx ry ⟨i, j, pd.str, pe.str, c, h _ _ _ G .rfl' (.str _)⟩
    · simp only [bopM, if_neg c] at h
      exact h.elim
  | .add, .tup i, .tup j, h =>
    by_cases c : i.length + j.length ≤ sizeLine
    · simp only [bopM, if_pos c] at h
      obtain ⟨a, vs, rfl, ha, ga, da⟩ := pd.tup G
      obtain ⟨b, ws, rfl, hb, gb, db⟩ := pe.tup G
      refine op_catA pins s σ H _ _ v u Q I rx ry ⟨a, b, vs, ws, rfl, rfl, hK ▸ ha, hK ▸ hb, by rw [← da.length, ← db.length]; exact c, fun e => ?_, fun _ e => ?_, fun _ _ => new (da.append db) h⟩
      · subst e
        have e0 : i = [] := List.eq_nil_of_length_eq_zero da.length
        subst e0
        exact h _ _ _ G .rfl' (.tup gb db)
      · subst e
        have e0 : j = [] := List.eq_nil_of_length_eq_zero db.length
        subst e0
        rw [List.append_nil] at h
        exact h _ _ _ G .rfl' (.tup ga da)
    · simp only [bopM, if_neg c] at h
      exact h.elim
  | .mul, .tup i, .int k, h =>
    by_cases c : i ≠ [] ∧ 2 ≤ k ∧ k ≤ 1000 ∧ i.length ≤ 1000
    · simp only [bopM, if_pos c] at h
      obtain ⟨a, vs, rfl, ha, ga, da⟩ := pd.tup G
      refine op_repT pins s σ H _ _ v u Q I rx ry ⟨a, k, vs, rfl, pe.int, hK ▸ ha, fun e => c.1 ?_, c.2.1, c.2.2.1, by rw [← da.length]; exact c.2.2.2, new (flat_rep da _) h⟩
      subst e
      exact List.eq_nil_of_length_eq_zero da.length
    · simp only [bopM, if_neg c] at h
      exact h.elim
end
end LB

namespace LB
open PySem L2

/-! ### dicts looked into -/
def lookK : List (D × D) → Key → Option D
  | [], _ => none
  | (e, d) :: r, k => if keyD e = some k then some d else lookK r k
def lookT : List (D × D) → List Key → Option D
  | [], _ => none
  | (e, d) :: r, k => if keyT e = some k then some d else lookT r k
def lookS : List (Str × D) → Str → Option D
  | [], _ => none
  | (e, d) :: r, k => if e = k then some d else lookS r k
/-- what stands in a dict at a key: none where that isn't told, some none where nothing stands there -/
def getD? : D → D → Option (Option D)
  | .dct false kvs, k => (keyD k).map (lookK kvs)
  | .dct true kvs, k => (keyT k).map (lookT kvs)
  | .kdc kvs, .str x => some (lookS kvs x)
  | _, _ => none
section
variable {Z : Stc} {Fo : Hp} {W : WX} {g g' : Gh} {m m' : Mst} {σ : L2.St} {H : Hp} {N N' : Nat} {G0 : Hp} {μ0 : Nat → Addr}
theorem lookK_rel : ∀ {kvs : List (D × D)} {ks : List (Key × V)} (k : Key), DVk Z G0 μ0 N kvs ks → match lookK kvs k, valV ks k with
    | some d, some v => DV Z G0 μ0 N d v
    | none, none => True
    | _, _ => False
  | _, _, _, .nil => trivial
  | (e, d) :: r, (k', v) :: s, k, .cons he hd hr => by
    have ih := lookK_rel k hr
    by_cases c : k' = k
    · subst c
      rw [valV_pos (p := (k', v)) rfl, lookK, if_pos he]
      exact hd
    · rw [valV_neg (p := (k', v)) c, lookK, if_neg (by rw [he]; simpa using c)]
      exact ih
theorem lookT_rel : ∀ {kvs : List (D × D)} {ks : List (List Key × V)} (k : List Key), DVt Z G0 μ0 N kvs ks → match lookT kvs k, valV ks k with
    | some d, some v => DV Z G0 μ0 N d v
    | none, none => True
    | _, _ => False
  | _, _, _, .nil => trivial
  | (e, d) :: r, (k', v) :: s, k, .cons he hd hr => by
    have ih := lookT_rel k hr
    by_cases c : k' = k
    · subst c
      rw [valV_pos (p := (k', v)) rfl, lookT, if_pos he]
      exact hd
    · rw [valV_neg (p := (k', v)) c, lookT, if_neg (by rw [he]; simpa using c)]
      exact ih
theorem lookS_rel : ∀ {kvs : List (Str × D)} {es : List DictEntry} (x : Str), DVe Z G0 μ0 N kvs es → match lookS kvs x, (es.find? fun e => Value.isStrOf x e.key).map (·.val) with
    | some d, some u => ∃ v, RelV v u ∧ DV Z G0 μ0 N d v
    | none, none => True
    | _, _ => False
  | _, _, _, .nil => trivial
  | (y, d) :: r, ⟨_, .str _ t, _⟩ :: s, x, .cons ru hd hr => by
    have ih := lookS_rel x hr
    by_cases c : y = x
    · subst c
      rw [List.find?_cons_of_pos (by simp [Value.isStrOf]), lookS, if_pos rfl]
      exact ⟨_, ru, hd⟩
    · rw [List.find?_cons_of_neg (by simpa [Value.isStrOf] using c), lookS, if_neg c]
      exact ih
theorem PV.key {d : D} {v : V} {k : Key} (r : PV Z g N H d v) (h : keyD d = some k) : v = kV k := by
  cases d with
  | int i => cases h; exact r.int
  | str x => cases h; exact r.str
  | _ => cases h
theorem DVs.keys : ∀ {ds : List D} {vs : List V} {ks : List Key}, DVs Z G0 μ0 N ds vs → keysD ds = some ks → vs = ks.map kV
  | _, _, _, .nil, h => by cases h; rfl
  | d :: ds, v :: vs, ks, .cons h1 h2, h => by
    unfold keysD at h
    cases e1 : keyD d with
    | none => rw [e1] at h; cases h
    | some k =>
      cases e2 : keysD ds with
      | none => rw [e1, e2] at h; cases h
      | some ks' =>
        rw [e1, e2] at h
        cases h
        have q : v = kV k := by
          cases d with
          | int i => cases e1; cases h1; rfl
          | str x => cases e1; cases h1; rfl
          | _ => cases e1
        rw [q, DVs.keys h2 e2]
        rfl
theorem PV.keyT {d : D} {v : V} {k : List Key} (G : Good Z Fo g m σ H) (r : PV Z g m.S.length H d v) (h : keyT d = some k) : ∃ b, v = .ref b ∧ H b = some (.tup (k.map kV)) := by
  cases d with
  | tup ds =>
    obtain ⟨a, vs, rfl, ha, _, q⟩ := r.tup' G
    rw [q.keys h] at ha
    exact ⟨a, rfl, ha⟩
  | _ => cases h
theorem PV.dct0 {kvs : List (D × D)} {v : V} (G : Good Z Fo g m σ H) (r : PV Z g m.S.length H (.dct false kvs) v) : ∃ a ks, v = .ref a ∧ H a = some (.dK ks) ∧ DVk Z g.G g.μ m.S.length kvs ks := by
  rcases r with r | ⟨a, h, o, rfl, e, eo, r⟩
  · cases r with
    | dk h r => exact ⟨_, _, rfl, G.s.gh _ _ h, r⟩
  · cases o with
    | lst ds => cases eo
    | dct t k =>
      cases eo
      obtain ⟨vs, rfl, r⟩ := r
      exact ⟨a, vs, rfl, e, r⟩
theorem PV.dct1 {kvs : List (D × D)} {v : V} (G : Good Z Fo g m σ H) (r : PV Z g m.S.length H (.dct true kvs) v) : ∃ a ks, v = .ref a ∧ H a = some (.dT ks) ∧ DVt Z g.G g.μ m.S.length kvs ks := by
  rcases r with r | ⟨a, h, o, rfl, e, eo, r⟩
  · cases r with
    | dt h r => exact ⟨_, _, rfl, G.s.gh _ _ h, r⟩
  · cases o with
    | lst ds => cases eo
    | dct t k =>
      cases eo
      obtain ⟨vs, rfl, r⟩ := r
      exact ⟨a, vs, rfl, e, r⟩
theorem PV.kdc {kvs : List (Str × D)} {v : V} (r : PV Z g N H (.kdc kvs) v) : ∃ a es n, v = .ref a ∧ KDict Z.K Z.w a es n ∧ DVe Z g.G g.μ N kvs es.toList := by
  rcases r with r | ⟨a, h, o, rfl, e, eo, r⟩
  · cases r with
    | kd h r => exact ⟨_, _, _, rfl, h, r⟩
  · cases o <;> cases eo
/-- a dict asked at a key -/
inductive Asked (Z : Stc) (Fo : Hp) (g : Gh) (N : Nat) (H : Hp) (x y : V) : Option D → Prop
  | get {a : Addr} {o : Option D} {r : Option V} : x = .ref a → DGet H a y r → (match o, r with | some d, some v => DV Z g.G g.μ N d v | none, none => True | _, _ => False) → Asked Z Fo g N H x y o
  | kd {a : Addr} {es : Array DictEntry} {n : Nat} {z : Str} {o : Option D} : x = .ref a → y = .str z → KDict Z.K Z.w a es n → (match o, findBy Value.isStrOf es z with | some d, some u => ∃ v, RelV v u ∧ DV Z g.G g.μ N d v | none, none => True | _, _ => False) → Asked Z Fo g N H x y o
def OD (Z : Stc) (g : Gh) (N : Nat) : Option D → Option V → Prop
  | some d, some v => DV Z g.G g.μ N d v
  | none, none => True
  | _, _ => False
theorem askedD {t : Bool} {kvs : List (D × D)} {e : D} {x y : V} {o : Option D} (G : Good Z Fo g m σ H) (pd : PV Z g m.S.length H (.dct t kvs) x) (pe : PV Z g m.S.length H e y) (h : getD? (.dct t kvs) e = some o) :
    ∃ a r, x = .ref a ∧ DGet H a y r ∧ OD Z g m.S.length o r := by
  cases t with
  | false =>
    have h : (keyD e).map (lookK kvs) = some o := h
    obtain ⟨a, ks, rfl, hd, q⟩ := pd.dct0 G
    cases ek : keyD e with
    | none => rw [ek] at h; cases h
    | some k =>
      rw [ek] at h
      cases h
      refine ⟨a, _, rfl, .inl ⟨ks, k, .inl hd, pe.key ek, rfl⟩, ?_⟩
      have := lookK_rel k q
      revert this
      cases lookK kvs k <;> cases valV ks k <;> exact id
  | true =>
    have h : (LB.keyT e).map (lookT kvs) = some o := h
    obtain ⟨a, ks, rfl, hd, q⟩ := pd.dct1 G
    cases ek : LB.keyT e with
    | none => rw [ek] at h; cases h
    | some k =>
      rw [ek] at h
      cases h
      obtain ⟨b, rfl, hb⟩ := pe.keyT G ek
      refine ⟨a, _, rfl, .inr ⟨ks, k, b, .inl hd, rfl, hb, rfl⟩, ?_⟩
      have := lookT_rel k q
      revert this
      cases lookT kvs k <;> cases valV ks k <;> exact id
theorem asked {d e : D} {x y : V} {o : Option D} (G : Good Z Fo g m σ H) (pd : PV Z g m.S.length H d x) (pe : PV Z g m.S.length H e y) (h : getD? d e = some o) : Asked Z Fo g m.S.length H x y o := by
  cases d with
  | dct t kvs =>
    obtain ⟨a, r, ex, dg, rr⟩ := askedD G pd pe h
    refine .get ex dg ?_
    cases o <;> cases r <;> exact rr
  | kdc kvs =>
    cases e with
    | str z =>
      obtain ⟨a, es, n, rfl, hd, q⟩ := pd.kdc
      cases h
      refine .kd rfl pe.str hd ?_
      have := lookS_rel z q
      have ef : findBy Value.isStrOf es z = (es.toList.find? fun e => Value.isStrOf z e.key).map (·.val) := by
        obtain ⟨l⟩ := es
        simp [findBy]
      rw [ef]
      revert this
      cases lookS kvs z <;> cases (es.toList.find? fun e => Value.isStrOf z e.key).map (·.val) <;> exact id
    | _ => cases h
  | _ => cases h
end
end LB

namespace LB
open PySem L2

section
variable {Z : Stc} {Fo : Hp} {W : WX} {X : Cx} {ea eb ec : Expr} {a b c : Opd} {pos : Pos}
theorem de_bop (hK : X.K = Z.K) (o : BOp) (ha : PE X ea (tO Z Fo W a)) (hb : PE X eb (tO Z Fo W b)) : PE X (.BinOp ea o.op eb pos) (tE Z Fo W (opd2 a b (bopM o))) :=
  (pe_op (bop_rule hK o) ha hb).imp fun σ H Q ⟨g, m, G, h⟩ => rd_opd2 G h fun g' m' H' x y d e G' _ px py p => ⟨g', m', σ, d, e, G', px, py, p⟩
theorem _root_.L2.Inv.lstR {pins : List (Addr × Obj)} {σ : L2.St} {H : Hp} {s : Shared} (I : Inv X pins σ H s) {l : Addr} {xs : List V} (r : Rd H l (.lst xs)) :
    xs.length ≤ sizeLine ∧ ∃ (its : List Value) (n : Nat), Vals xs its ∧ s.heap.get? l = some { cls := .type "list", data := .seq its.toArray n } := by
  obtain ⟨z, its, n, r, e⟩ := r.ok I.hok
  exact ⟨z, its, n, r, e⟩
/-- a list's object, repeated -/
theorem rep_at {P : Program} {w : World} {A : Around} {E : Value → Shared → Prop} {s : Shared} {l : Addr} {its : List Value} {n : Nat} {k : Int} {t : Tok} {Q : Value → Shared → Prop}
    (e : s.heap.get? l = some { cls := .type "list", data := .seq its.toArray n }) (h0 : 0 ≤ k) (h2 : k < 2 ^ 63) (hz : its.length * k.toNat ≤ sizeLine)
    (q : Q (.ref s.heap.objs.size) { s with heap := s.heap.push { cls := .type "list", data := .seq (List.replicate k.toNat its).flatten.toArray } }) : wpAny (model P w) A (binaryOp .Mult (.ref l) (.int k t)) Q E s := by
  have hl : its.toArray.size * k.toNat ≤ sizeLine := by rw [List.size_toArray]; exact hz
  have big : (sizeLine : Nat) ≤ (2 ^ 63 - 1) / 8 := by decide
  have fit : ¬ (!Builtin.List.listFitsIndex k) = true := by rw [fitsIndex_both (by omega) h2]; simp
  have long : ¬ Builtin.List.listTooLong (its.toArray.size * k.toNat) = true := by rw [notLongL hl]; simp
  have all : List.foldl (fun x1 x2 => x1 ++ x2) #[] (List.replicate (if its.toArray.isEmpty = true then 0 else k.toNat) its.toArray) = (List.replicate k.toNat its).flatten.toArray := by
    have f0 : ∀ m : Nat, List.foldl (fun x1 x2 => x1 ++ x2) #[] (List.replicate m its.toArray) = (List.replicate m its).flatten.toArray := fun m => by simpa using foldl_rep its m []
    rw [f0]
    cases its <;> simp
  refine wpAny_binaryOp_repeat_ref (T := "list") (U := "int") (by decide) ⟨_, e, rfl⟩ (fun s' => typeIs_int s' k t) noFill_list_mul F.fills_int_mul F.slot_int_rmul repeat_list F.slot_int_index.lookup ?_
  refine call_meets F.slot_int_rmul (typeIs_int s k t) F.entry_int_rmul (F.args_int_rmul_2 _ _) (int___rmul___int_list k t l its.toArray n) ⟨e, rfl, ⟨_, e, rfl⟩, ?_⟩
  refine call_meets F.slot_list_mul ⟨_, e, rfl⟩ F.entry_list_mul (F.args_list_mul_2 _ _) (AutoListH.list___mul___list_int_3 l its.toArray n k t fit (by omega) long) ⟨e, ?_⟩
  rw [all]
  exact q
theorem bopN_rule (o : BOp) : OpR X (binaryOp o.op) (rM Z Fo W (RN Z Fo) (bopN o)) := by
  intro pins s σ H x y v u Q I rx ry ⟨g, m, σ', d, e, G, pd, pe, h⟩
  have new : ∀ {xs : List D} {vs : List V}, DVs Z g.G g.μ m.S.length xs vs → Pg Z Fo W (RN Z Fo) g m.S.length σ' Q (.ok (.lst xs) m) → ∀ p, H p = none → Q (.ref p) (upd H p (.lst vs)) := fun {xs vs} r h p n => by
    obtain ⟨f1, f2, f3⟩ := G.free n
    exact h _ _ _ (G.fresh n) .rfl' ⟨p, .lst vs, rfl, upd_same, ⟨vs, rfl, r⟩, f1, f2, f3⟩
  match o, d, e, h with
  | .add, .lst i, .lst j, h =>
    by_cases c : i.length + j.length ≤ sizeLine
    · simp only [bopN, if_pos c] at h
      obtain ⟨l, vs, rfl, hl, dl⟩ := pd.lst G
      obtain ⟨b, ws, rfl, hb, db⟩ := pe.lst G
      cases rx
      cases ry
      obtain ⟨z, its, n, r, e1⟩ := I.lstR hl
      obtain ⟨z2, its2, n2, r2, e2⟩ := I.lstR hb
      have q1 := r.length
      have q2 := r2.length
      have q3 := dl.length
      have q4 := db.length
      refine PySem.P.add_list e1 e2 ?_ (by rw [List.size_toArray, List.size_toArray]; omega)
      rw [show its.toArray ++ its2.toArray = (its ++ its2).toArray by simp]
      exact ⟨.ref _, _, I.lnew (t' := s.toks) (r.append r2) (by rw [List.length_append]; omega), rfl, new (dl.append db) h _ I.fresh⟩
    · simp only [bopN, if_neg c] at h
      exact h.elim
  | .mul, .lst i, .int k, h =>
    by_cases c : 0 ≤ k ∧ k < 2 ^ 63 ∧ i.length * k.toNat ≤ sizeLine
    · simp only [bopN, if_pos c] at h
      obtain ⟨l, vs, rfl, hl, dl⟩ := pd.lst G
      have q3 := dl.length
      obtain rfl := pe.int
      obtain ⟨t, rfl⟩ := ry
      cases rx
      obtain ⟨z, its, n, r, e1⟩ := I.lstR hl
      have q1 := r.length
      exact rep_at e1 c.1 c.2.1 (by rw [← q1, ← q3]; exact c.2.2) ⟨.ref _, _, I.lnew (t' := s.toks) (r.rep k.toNat) (by rw [PyProof.Rows.lm_len_rep_flat, Nat.mul_comm, ← q3]; exact c.2.2), rfl, new (flat_rep dl _) h _ I.fresh⟩
    · simp only [bopN, if_neg c] at h
      exact h.elim
theorem de_bopN (o : BOp) (ha : PE X ea (tO Z Fo W a)) (hb : PE X eb (tO Z Fo W b)) : PE X (.BinOp ea o.op eb pos) (tN Z Fo W (opd2 a b (bopN o))) :=
  (pe_op (bopN_rule o) ha hb).imp fun σ H Q ⟨g, m, G, h⟩ => rd_opd2 G h fun g' m' H' x y d e G' _ px py p => ⟨g', m', σ, d, e, G', px, py, p⟩

/-! ### comparisons -/
inductive COp where
  | eq | ne | lt | le | gt | ge | isin | notin | is_ | isnot
def COp.op : COp → CmpOp
  | .eq => .Eq | .ne => .NotEq | .lt => .Lt | .le => .LtE | .gt => .Gt | .ge => .GtE | .isin => .In | .notin => .NotIn | .is_ => .Is | .isnot => .IsNot
/-- x in a sequence, where it is told -/
def inD (d : D) : D → Option Bool
  | .lst ds => if SeqAt.shaped d.toP && PyData.canLayAll0 (D.toPs ds) then some ((D.toPs ds).any fun z => PyData.eqv z d.toP) else none
  | .tup ds => if SeqAt.shaped d.toP && PyData.canLayAll0 (D.toPs ds) then some ((D.toPs ds).any fun z => PyData.eqv z d.toP) else none
  | .ktp ds => if SeqAt.shaped d.toP && PyData.canLayAll0 (D.toPs ds) then some ((D.toPs ds).any fun z => PyData.eqv z d.toP) else none
  | .str z => match d with
    | .str x => match x.cps.toList with
      | [c] => some (decide (c ∈ z.cps.toList))
      | _ => none
    | _ => none
  | e => (getD? e d).map Option.isSome
def D.isN : D → Bool
  | .non => true
  | _ => false
def cmpD : COp → D → D → Option Bool
  | .eq, x, y => eqD x y
  | .ne, x, y => (eqD x y).map not
  | .lt, .int i, .int j => some (decide (i < j))
  | .le, .int i, .int j => some (decide (i ≤ j))
  | .gt, .int i, .int j => some (decide (j < i))
  | .ge, .int i, .int j => some (decide (j ≤ i))
  | .isin, x, y => inD x y
  | .notin, x, y => (inD x y).map not
  | .is_, x, .non => some x.isN
  | .isnot, x, .non => some (!x.isN)
  | _, _, _ => none
theorem PV.isN {g : Gh} {N : Nat} {H : Hp} {d : D} {v : V} (r : PV Z g N H d v) : decide (v = .non) = d.isN := by
  rcases r with r | ⟨a, h, o, rfl, e, eo, r⟩
  · cases r <;> rfl
  · subst eo
    cases o <;> rfl
theorem asked_in {pins : List (Addr × Obj)} {s : Shared} {σ : L2.St} {H : Hp} {g : Gh} {N : Nat} {x y : V} {v u : Value} {o : Option D} {Q : V → Hp → Prop} (hK : X.K = Z.K) (hw : X.w = Z.w) (hu : X.A.units + 65 < cLine)
    (as : Asked Z Fo g N H y x o) (I : L2.Inv X pins σ H s) (rx : RelV x v) (ry : RelV y u) (q : Q (.bl o.isSome) H) : wpAny (model X.prog X.w) X.A (compareOp .In v u) (EP X pins σ Q) X.xe s := by
  cases as with
  | get ea dg r =>
    subst ea
    cases ry
    rename_i rr
    refine d_in (by omega) I dg rx fun s' I' => ⟨.bl rr.isSome, H, I', rfl, ?_⟩
    cases o <;> cases rr <;> first | exact q | exact r.elim
  | kd ea ez kd r =>
    subst ea ez
    cases ry
    obtain ⟨t, rfl⟩ := rx
    rw [← hK, ← hw] at kd
    refine wpAny_in_of (PySem.strKind_is X.prog X.w _ t) kd.low (PySem.W.mapOf_K (prog := X.prog) I.kIn kd.at_ kd.lit) ⟨.bl o.isSome, H, I.tok _, ?_, q⟩
    cases o <;> revert r <;> cases findBy Value.isStrOf _ _ <;> intro r <;> first | rfl | exact r.elim
theorem asked_notIn {pins : List (Addr × Obj)} {s : Shared} {σ : L2.St} {H : Hp} {g : Gh} {N : Nat} {x y : V} {v u : Value} {o : Option D} {Q : V → Hp → Prop} (hK : X.K = Z.K) (hw : X.w = Z.w) (hu : X.A.units + 65 < cLine)
    (as : Asked Z Fo g N H y x o) (I : L2.Inv X pins σ H s) (rx : RelV x v) (ry : RelV y u) (q : Q (.bl (!o.isSome)) H) : wpAny (model X.prog X.w) X.A (compareOp .NotIn v u) (EP X pins σ Q) X.xe s := by
  cases as with
  | get ea dg r =>
    subst ea
    cases ry
    rename_i rr
    refine d_notIn (by omega) I dg rx fun s' I' => ⟨.bl (!rr.isSome), H, I', rfl, ?_⟩
    cases o <;> cases rr <;> first | exact q | exact r.elim
  | kd ea ez kd r =>
    subst ea ez
    cases ry
    obtain ⟨t, rfl⟩ := rx
    rw [← hK, ← hw] at kd
    refine wpAny_notIn_of (PySem.strKind_is X.prog X.w _ t) kd.low (PySem.W.mapOf_K (prog := X.prog) I.kIn kd.at_ kd.lit) ⟨.bl (!o.isSome), H, I.tok _, ?_, q⟩
    cases o <;> revert r <;> cases findBy Value.isStrOf _ _ <;> intro r <;> first | rfl | exact r.elim
/-- d[k] of a dict -/
theorem asked_item {pins : List (Addr × Obj)} {s : Shared} {σ : L2.St} {H : Hp} {g : Gh} {N : Nat} {x y : V} {v u : Value} {d : D} {Q : V → Hp → Prop} (hK : X.K = Z.K) (hw : X.w = Z.w) (hu : X.A.units + 65 < cLine)
    (as : Asked Z Fo g N H x y (some d)) (I : L2.Inv X pins σ H s) (rx : RelV x v) (ry : RelV y u) (q : ∀ z, DV Z g.G g.μ N d z → Q z H) : s.TypeIs v "dict" ∧ wpAny (model X.prog X.w) X.A (getItem v u) (EP X pins σ Q) X.xe s := by
  cases as with
  | get ea dg r =>
    subst ea
    cases rx
    rename_i rr
    cases rr with
    | none => exact r.elim
    | some z => exact ⟨dict_typeIs I dg, d_getItem (by omega) I dg ry fun w' s' I' r' => ⟨z, H, I', r', q z r⟩⟩
  | kd ea ez kd r =>
    subst ea ez
    cases rx
    obtain ⟨t, rfl⟩ := ry
    rw [← hK, ← hw] at kd
    revert r
    cases ef : findBy Value.isStrOf _ _ with
    | none => exact fun r => r.elim
    | some u0 => exact fun ⟨z, rz, dz⟩ => ⟨kd_type kd I, wpAny_getItem_of (PySem.strKind_is X.prog X.w _ t) (PySem.W.mapOf_K (prog := X.prog) I.kIn kd.at_ kd.lit) ef ⟨z, H, I.tok _, rz, q z dz⟩⟩
theorem cmp_rule (hK : X.K = Z.K) (hw : X.w = Z.w) (hu : X.A.units + 65 < cLine) (o : COp) : OpR X (compareOp o.op) (fun x y H Q => ∃ g m σ d e k, Good Z Fo g m σ H ∧ PV Z g m.S.length H d x ∧ PV Z g m.S.length H e y ∧ cmpD o d e = some k ∧ Q (.bl k) H) := by
  intro pins s σ H x y v u Q I rx ry ⟨g, m, σ', d, e, k, G, pd, pe, hk, q⟩
  have eqs : ∀ {k : Bool}, eqD d e = some k → Dp X.K H x d.toP ∧ Dp X.K H y e.toP ∧ SeqAt.shaped d.toP = true ∧ SeqAt.shaped e.toP = true ∧ k = PyData.eqv d.toP e.toP := fun {k} h => by
    unfold eqD at h
    by_cases c : (SeqAt.shaped d.toP && SeqAt.shaped e.toP) = true
    · rw [if_pos c] at h
      obtain ⟨c1, c2⟩ := Bool.and_eq_true_iff.mp c
      exact ⟨hK ▸ pd.dp G (SeqAt.canLay_of_shaped c1), hK ▸ pe.dp G (SeqAt.canLay_of_shaped c2), c1, c2, (Option.some.inj h).symm⟩
    · rw [if_neg c] at h
      cases h
  have ins : ∀ {k : Bool}, inD d e = some k → (∀ {ds : List PyData} {as bs : List Addr}, Reads s.heap u (.list ds) as ∨ Reads s.heap u (.tuple ds) as → Reads s.heap v d.toP bs → PyData.canLayAll0 ds = true → SeqAt.shaped d.toP = true → k = ds.any (fun z => PyData.eqv z d.toP) → False) →
      (∃ c z, x = .str ⟨#[c]⟩ ∧ y = .str z ∧ k = decide (c ∈ z.cps.toList)) ∨ ∃ o, Asked Z Fo g m.S.length H y x o ∧ k = o.isSome := fun {k} h no => by
    have dic : (getD? e d).map Option.isSome = some k → ∃ o, Asked Z Fo g m.S.length H y x o ∧ k = o.isSome := fun h => by
      cases h0 : getD? e d with
      | none => rw [h0] at h; cases h
      | some o =>
        rw [h0] at h
        exact ⟨o, asked G pe pd h0, (Option.some.inj h).symm⟩
    unfold inD at h
    cases e with
    | lst ds =>
      dsimp only at h
      by_cases c : (SeqAt.shaped d.toP && PyData.canLayAll0 (D.toPs ds)) = true
      · rw [if_pos c] at h
        obtain ⟨c1, c2⟩ := Bool.and_eq_true_iff.mp c
        obtain ⟨as, r1⟩ := Dp.reads I d.toP x v (hK ▸ pd.dp G (SeqAt.canLay_of_shaped c1)) rx
        obtain ⟨bs, r2⟩ := Dp.reads I (.list (D.toPs ds)) y u (hK ▸ pe.dp G (by simpa [D.toP, PyData.canLay0] using c2)) ry
        exact (no (.inl r2) r1 c2 c1 (Option.some.inj h).symm).elim
      · rw [if_neg c] at h
        cases h
    | tup ds =>
      dsimp only at h
      by_cases c : (SeqAt.shaped d.toP && PyData.canLayAll0 (D.toPs ds)) = true
      · rw [if_pos c] at h
        obtain ⟨c1, c2⟩ := Bool.and_eq_true_iff.mp c
        obtain ⟨as, r1⟩ := Dp.reads I d.toP x v (hK ▸ pd.dp G (SeqAt.canLay_of_shaped c1)) rx
        obtain ⟨bs, r2⟩ := Dp.reads I (.tuple (D.toPs ds)) y u (hK ▸ pe.dp G (by simpa [D.toP, PyData.canLay0] using c2)) ry
        exact (no (.inr r2) r1 c2 c1 (Option.some.inj h).symm).elim
      · rw [if_neg c] at h
        cases h
    | ktp ds =>
      dsimp only at h
      by_cases c : (SeqAt.shaped d.toP && PyData.canLayAll0 (D.toPs ds)) = true
      · rw [if_pos c] at h
        obtain ⟨c1, c2⟩ := Bool.and_eq_true_iff.mp c
        obtain ⟨as, r1⟩ := Dp.reads I d.toP x v (hK ▸ pd.dp G (SeqAt.canLay_of_shaped c1)) rx
        obtain ⟨bs, r2⟩ := Dp.reads I (.tuple (D.toPs ds)) y u (hK ▸ pe.dp G (by simpa [D.toP, PyData.canLay0] using c2)) ry
        exact (no (.inr r2) r1 c2 c1 (Option.some.inj h).symm).elim
      · rw [if_neg c] at h
        cases h
    | str z =>
      cases d with
      | str w =>
        obtain ⟨⟨cs⟩⟩ := w
        dsimp only at h
        split at h
        · rename_i c'
          exact .inl ⟨_, z, pd.str, pe.str, (Option.some.inj h).symm⟩
        · cases h
      | _ => cases h
    | _ => exact .inr (dic h)
  cases o with
  | eq =>
    obtain ⟨d1, d2, s1, s2, rfl⟩ := eqs hk
    exact op_eqD (by omega) pins s σ H x y v u Q I rx ry ⟨_, _, d1, d2, s1, s2, q⟩
  | ne =>
    have hk : (eqD d e).map not = some k := hk
    cases h0 : eqD d e with
    | none => rw [h0] at hk; cases hk
    | some k0 =>
      rw [h0] at hk
      cases hk
      obtain ⟨d1, d2, s1, s2, rfl⟩ := eqs h0
      exact op_neD (by omega) pins s σ H x y v u Q I rx ry ⟨_, _, d1, d2, s1, s2, q⟩
  | lt => match d, e, hk with
    | .int i, .int j, hk => cases hk; exact op_lt pins s σ H x y v u Q I rx ry ⟨i, j, pd.int, pe.int, q⟩
  | le => match d, e, hk with
    | .int i, .int j, hk => cases hk; exact op_le pins s σ H x y v u Q I rx ry ⟨i, j, pd.int, pe.int, q⟩
  | gt => match d, e, hk with
    | .int i, .int j, hk => cases hk; exact op_gt pins s σ H x y v u Q I rx ry ⟨i, j, pd.int, pe.int, q⟩
  | ge => match d, e, hk with
    | .int i, .int j, hk => cases hk; exact op_ge pins s σ H x y v u Q I rx ry ⟨i, j, pd.int, pe.int, q⟩
  | is_ => match e, hk with
    | .non, hk =>
      cases hk
      rw [← PV.isN pd] at q
      exact op_isN pins s σ H x y v u Q I rx ry ⟨pe.non, q⟩
  | isnot => match e, hk with
    | .non, hk =>
      cases hk
      refine op_notN pins s σ H x y v u Q I rx ry ⟨pe.non, ?_⟩
      rw [PV.isN pd]
      exact q
  | isin =>
    have hk : inD d e = some k := hk
    apply Classical.byContradiction
    intro nn
    rcases ins hk fun {ds as bs} r2 r1 c2 c1 ek => nn (by
      subst ek
      rcases r2 with r2 | r2
      · exact SeqAt.in_list_reads r2 r1 c2 (SeqAt.canLay_of_shaped c1) (PyProof.Rows.room_in_shaped c1 hu) ⟨.bl _, H, I, rfl, q⟩
      · exact SeqAt.in_tuple_reads r2 r1 c2 (SeqAt.canLay_of_shaped c1) (PyProof.Rows.room_in_shaped c1 hu) ⟨.bl _, H, I, rfl, q⟩) with ⟨c, z, rfl, rfl, rfl⟩ | ⟨o, as, rfl⟩
    · exact nn (op_in_sign pins s σ H _ _ v u Q I rx ry ⟨c, z, rfl, rfl, q⟩)
    · exact nn (asked_in hK hw hu as I rx ry q)
  | notin =>
    have hk : (inD d e).map not = some k := hk
    cases h0 : inD d e with
    | none => rw [h0] at hk; cases hk
    | some k0 =>
      rw [h0] at hk
      cases hk
      apply Classical.byContradiction
      intro nn
      rcases ins h0 fun {ds as bs} r2 r1 c2 c1 ek => nn (by
        subst ek
        rcases r2 with r2 | r2
        · exact SeqAt.notIn_list_reads r2 r1 c2 (SeqAt.canLay_of_shaped c1) (PyProof.Rows.room_in_shaped c1 hu) ⟨.bl _, H, I, rfl, q⟩
        · exact SeqAt.notIn_tuple_reads r2 r1 c2 (SeqAt.canLay_of_shaped c1) (PyProof.Rows.room_in_shaped c1 hu) ⟨.bl _, H, I, rfl, q⟩) with ⟨c, z, rfl, rfl, rfl⟩ | ⟨o, as, rfl⟩
      · exact nn (op_notIn_sign pins s σ H _ _ v u Q I rx ry ⟨c, z, rfl, rfl, q⟩)
      · exact nn (asked_notIn hK hw hu as I rx ry q)
/-- a comparison: as a test, as a value -/
def cmpM (o : COp) (d e : D) : Mo Bool := .opt (cmpD o d e)
def blM (f : Mo Bool) : Mo D := f.bind fun k => .ret (.bl k)
theorem cmp_rd {σ : L2.St} {H : Hp} {P : V → Hp → Prop} (o : COp) (h : tT Z Fo W (opd2 a b (cmpM o)) σ H fun k H => P (.bl k) H) :
    tOp (fun x y H Q => ∃ g m σ d e k, Good Z Fo g m σ H ∧ PV Z g m.S.length H d x ∧ PV Z g m.S.length H e y ∧ cmpD o d e = some k ∧ Q (.bl k) H) (tO Z Fo W a) (tO Z Fo W b) σ H P := by
  obtain ⟨g, m, G, h⟩ := h
  refine rd_opd2 G h fun g' m' H' x y d e G' _ px py p => ?_
  cases hk : cmpD o d e with
  | none => simp only [cmpM, hk] at p; exact p.elim
  | some k =>
    simp only [cmpM, hk] at p
    exact ⟨g', m', σ, d, e, k, G', px, py, hk, p _ _ _ G' .rfl' rfl⟩
theorem nob (o : COp) {e : Expr} (h : ∀ es k p, e ≠ .Set es k p) : behindInMarks o.op e = false := by
  cases e <;> first | rfl | exact absurd rfl (h _ _ _)
theorem dt_cmp (hK : X.K = Z.K) (hw : X.w = Z.w) (hu : X.A.units + 65 < cLine) (o : COp) (ha : PE X ea (tO Z Fo W a)) (hb : PE X eb (tO Z Fo W b)) (hm : ∀ es k p, eb ≠ .Set es k p) : PT X (.Compare ea [o.op] [eb] pos) (tT Z Fo W (opd2 a b (cmpM o))) :=
  (pt_cmpR (cmp_rule (Fo := Fo) hK hw hu o) ha hb (nob o hm)).imp fun σ H Q ⟨g, m, G, h⟩ => cmp_rd o ⟨g, m, G, h.imp fun k H q => ⟨k, rfl, q⟩⟩
end
/-- a truth value as a datum -/
theorem rd_bl {Z : Stc} {Fo : Hp} {W : WX} {σ : L2.St} {H : Hp} {Q : V → Hp → Prop} {f : Mo Bool} (h : tE Z Fo W (blM f) σ H Q) : tT Z Fo W f σ H fun k H' => Q (.bl k) H' := by
  obtain ⟨g, m, G, h⟩ := h
  exact ⟨g, m, G, (Pg.bind (R := RB) h).imp fun v H' ⟨k, g', m', G', E, ek, _, q⟩ => by
    subst ek
    exact q _ _ _ G' .rfl' (.bl _)⟩
section
variable {Z : Stc} {Fo : Hp} {W : WX} {X : Cx} {ea eb ec : Expr} {a b c : Opd} {pos : Pos}
theorem de_cmp (hK : X.K = Z.K) (hw : X.w = Z.w) (hu : X.A.units + 65 < cLine) (o : COp) (ha : PE X ea (tO Z Fo W a)) (hb : PE X eb (tO Z Fo W b)) (hm : ∀ es k p, eb ≠ .Set es k p) : PE X (.Compare ea [o.op] [eb] pos) (tE Z Fo W (blM (opd2 a b (cmpM o)))) :=
  (pe_cmpR (cmp_rule (Fo := Fo) hK hw hu o) ha hb (nob o hm)).imp fun σ H Q h => by
    exact cmp_rd o (rd_bl h)
end
end LB

namespace LB
open PySem L2

section
variable {Z : Stc} {Fo : Hp} {W : WX} {g g' : Gh} {m m' : Mst} {σ : L2.St} {H : Hp} {N N' : Nat}
/-! ### values, lists of values -/
theorem rd_k {d : D} {v : V} {Q : V → Hp → Prop} (r : ∀ (G : Hp) (μ : Nat → Addr) (n : Nat), DV Z G μ n d v) (h : tE Z Fo W (.ret d) σ H Q) : tC v σ H Q := by
  obtain ⟨g, m, G, h⟩ := h
  exact h v H g G .rfl' (r _ _ _)
def consM (f : Mo D) (r : Mo (List D)) : Mo (List D) := f.bind fun d => r.bind fun ds => .ret (d :: ds)
theorem rd_nil {Q : List V → Hp → Prop} (h : tL Z Fo W (.ret []) σ H Q) : tNil σ H Q := by
  obtain ⟨g, m, G, h⟩ := h
  exact h [] H g G .rfl' .nil
theorem rd_cons {f : Mo D} {r : Mo (List D)} {Q : List V → Hp → Prop} (h : tL Z Fo W (consM f r) σ H Q) : tCons (tE Z Fo W f) (tL Z Fo W r) σ H Q := by
  obtain ⟨g, m, G, h⟩ := h
  refine ⟨g, m, G, (Pg.bind (R := RD Z) h).imp fun v H' ⟨d, g', m', G', E, dv, _, p⟩ => ⟨g', m', G', (Pg.bind (R := RDs Z) p).imp fun vs H2 ⟨ds, g2, m2, G2, E2, dvs, _, p2⟩ => ?_⟩⟩
  exact p2 (v :: vs) H2 g2 G2 .rfl' (.cons (dv.ext E2) dvs)
/-- a tuple of some values -/
def tupM (f : Mo (List D)) : Mo D := f.bind fun ds m => if ds.length ≤ sizeLine then .ok (.tup ds) m else .no
def lstM (f : Mo (List D)) : Mo Ob := f.bind fun ds m => if ds.length ≤ sizeLine then .ok (.lst ds) m else .no
theorem rd_tup {f : Mo (List D)} {Q : V → Hp → Prop} (h : tE Z Fo W (tupM f) σ H Q) : tTup (tL Z Fo W f) σ H Q := by
  obtain ⟨g, m, G, h⟩ := h
  refine ⟨g, m, G, (Pg.bind (R := RDs Z) h).imp fun vs H' ⟨ds, g', m', G', E, dvs, _, p⟩ => ?_⟩
  by_cases c : ds.length ≤ sizeLine
  · rw [if_pos c] at p
    refine ⟨by rw [← dvs.length]; exact c, fun q n => ?_⟩
    obtain ⟨G2, E2⟩ := G'.laid (h := .tup vs) n
    exact p _ _ _ G2 E2 (.tup (show upd g'.G q _ q = _ from upd_same) (dvs.ext E2))
  · rw [if_neg c] at p
    exact p.elim
theorem rd_lst {f : Mo (List D)} {Q : V → Hp → Prop} (h : tN Z Fo W (lstM f) σ H Q) : tLst (tL Z Fo W f) σ H Q := by
  obtain ⟨g, m, G, h⟩ := h
  refine ⟨g, m, G, (Pg.bind (R := RDs Z) h).imp fun vs H' ⟨ds, g', m', G', E, dvs, _, p⟩ => ?_⟩
  by_cases c : ds.length ≤ sizeLine
  · rw [if_pos c] at p
    refine ⟨by rw [← dvs.length]; exact c, fun q n => ?_⟩
    obtain ⟨f1, f2, f3⟩ := G'.free n
    exact p _ _ _ (G'.fresh n) .rfl' ⟨q, .lst vs, rfl, upd_same, ⟨vs, rfl, dvs⟩, f1, f2, f3⟩
  · rw [if_neg c] at p
    exact p.elim

/-! ### truth -/
theorem PV.tru {K : PySem.W.Frag} (hK : K = Z.K) (G : Good Z Fo g m σ H) {d : D} {v : V} {k : Bool} (r : PV Z g m.S.length H d v) (h : truD d = some k) : TruV K v H k := by
  subst hK
  cases d with
  | non => cases h; rw [r.non]; rfl
  | bl b => cases h; rw [r.bl]; rfl
  | int i => cases h; rw [r.int]; rfl
  | str x =>
    rw [r.str]
    dsimp only [truD] at h
    by_cases c : x.length ≤ sizeLine
    · rw [if_pos c] at h
      cases h
      refine ⟨c, ?_⟩
      generalize x.length = n
      cases n with
      | zero => rfl
      | succ n =>
        have e1 : ((n + 1 : Nat) != 0) = true := by simp
        have e2 : (((n + 1 : Nat) : Int) != 0) = true := by simp only [bne_iff_ne]; omega
        rw [e1, e2]
    · rw [if_neg c] at h; cases h
  | tup ds =>
    obtain ⟨a, vs, rfl, ha, _, q⟩ := r.tup G
    cases h
    refine .inr (.inl ⟨vs, ha, ?_⟩)
    cases q <;> rfl
  | lst ds =>
    obtain ⟨a, vs, rfl, ha, q⟩ := r.lst G
    cases h
    refine .inl ⟨vs, .inl ha, ?_⟩
    cases q <;> rfl
  | _ => cases h
def truM (d : D) : Mo Bool := .opt (truD d)
theorem rd_tru {K : PySem.W.Frag} (hK : K = Z.K) {a : Opd} {Q : Bool → Hp → Prop} (h : tT Z Fo W (opd1 a truM) σ H Q) : tO Z Fo W a σ H fun x H' => ∃ k, TruV K x H' k ∧ Q k H' := by
  obtain ⟨g, m, G, h⟩ := h
  refine rd_opd1 G h fun g' m' H' x d G' _ px p => ?_
  cases hk : truD d with
  | none => simp only [truM, hk] at p; exact p.elim
  | some k =>
    simp only [truM, hk] at p
    exact ⟨k, px.tru hK G' hk, p _ _ _ G' .rfl' rfl⟩
def andT (f r : Mo Bool) : Mo Bool := f.bind fun c => if c = true then r else .ret false
def orT (f r : Mo Bool) : Mo Bool := f.bind fun c => if c = true then .ret true else r
def notT (f : Mo Bool) : Mo Bool := f.bind fun c => .ret (!c)
theorem rd_and {f r : Mo Bool} {Q : Bool → Hp → Prop} (h : tT Z Fo W (andT f r) σ H Q) : tAnd (tT Z Fo W f) (tT Z Fo W r) σ H Q := by
  obtain ⟨g, m, G, h⟩ := h
  refine ⟨g, m, G, (Pg.bind (R := RB) h).imp fun c H' ⟨d, g', m', G', E, e, _, p⟩ => ?_⟩
  subst e
  cases d with
  | true => exact ⟨g', m', G', p⟩
  | false => exact p _ _ _ G' .rfl' rfl
theorem rd_or {f r : Mo Bool} {Q : Bool → Hp → Prop} (h : tT Z Fo W (orT f r) σ H Q) : tOr (tT Z Fo W f) (tT Z Fo W r) σ H Q := by
  obtain ⟨g, m, G, h⟩ := h
  refine ⟨g, m, G, (Pg.bind (R := RB) h).imp fun c H' ⟨d, g', m', G', E, e, _, p⟩ => ?_⟩
  subst e
  cases d with
  | false => exact ⟨g', m', G', p⟩
  | true => exact p _ _ _ G' .rfl' rfl
theorem rd_not {f : Mo Bool} {Q : Bool → Hp → Prop} (h : tT Z Fo W (notT f) σ H Q) : tNot (tT Z Fo W f) σ H Q := by
  obtain ⟨g, m, G, h⟩ := h
  refine ⟨g, m, G, (Pg.bind (R := RB) h).imp fun c H' ⟨d, g', m', G', E, e, _, p⟩ => ?_⟩
  subst e
  exact p _ _ _ G' .rfl' rfl
def iteM {α : Type} (c : Mo Bool) (f r : Mo α) : Mo α := c.bind fun k => if k = true then f else r
theorem rd_ite {c : Mo Bool} {f r : Mo D} {Q : V → Hp → Prop} (h : tE Z Fo W (iteM c f r) σ H Q) : tIf (tT Z Fo W c) (tE Z Fo W f) (tE Z Fo W r) σ H Q := by
  obtain ⟨g, m, G, h⟩ := h
  refine ⟨g, m, G, (Pg.bind (R := RB) h).imp fun c H' ⟨d, g', m', G', E, e, _, p⟩ => ?_⟩
  subst e
  cases d with
  | true => exact ⟨g', m', G', p⟩
  | false => exact ⟨g', m', G', p⟩
/-- x and y, x or y as values: x, looked at for its truth -/
def andM (f r : Mo D) : Mo D := f.bind fun d m => match truD (look m d) with
  | some true => r m
  | some false => .ok d m
  | none => .no
def orM (f r : Mo D) : Mo D := f.bind fun d m => match truD (look m d) with
  | some false => r m
  | some true => .ok d m
  | none => .no
theorem rd_andM {K : PySem.W.Frag} (hK : K = Z.K) {f r : Mo D} {Q : V → Hp → Prop} (h : tE Z Fo W (andM f r) σ H Q) : tAndT K (tE Z Fo W f) (tE Z Fo W r) σ H Q := by
  obtain ⟨g, m, G, h⟩ := h
  refine ⟨g, m, G, (Pg.bind (R := RD Z) h).imp fun v H' ⟨d, g', m', G', E, e, _, p⟩ => ?_⟩
  cases hk : truD (look m' d) with
  | none => simp only [hk] at p; exact p.elim
  | some k =>
    refine ⟨k, (pv_look G' e).tru hK G' hk, ?_⟩
    cases k with
    | true => simp only [hk] at p; exact ⟨g', m', G', p⟩
    | false => simp only [hk] at p; exact p _ _ _ G' .rfl' e
theorem rd_orM {K : PySem.W.Frag} (hK : K = Z.K) {f r : Mo D} {Q : V → Hp → Prop} (h : tE Z Fo W (orM f r) σ H Q) : tOrT K (tE Z Fo W f) (tE Z Fo W r) σ H Q := by
  obtain ⟨g, m, G, h⟩ := h
  refine ⟨g, m, G, (Pg.bind (R := RD Z) h).imp fun v H' ⟨d, g', m', G', E, e, _, p⟩ => ?_⟩
  cases hk : truD (look m' d) with
  | none => simp only [hk] at p; exact p.elim
  | some k =>
    refine ⟨k, (pv_look G' e).tru hK G' hk, ?_⟩
    cases k with
    | false => simp only [hk] at p; exact ⟨g', m', G', p⟩
    | true => simp only [hk] at p; exact p _ _ _ G' .rfl' e
end
section
variable {Z : Stc} {Fo : Hp} {W : WX} {X : Cx} {ea eb ec : Expr} {a b c : Opd} {pos : Pos} {f r : Mo D} {tf tr : Mo Bool} {rest : List Expr}
theorem de_not (hK : X.K = Z.K) (ha : PE X ea (tO Z Fo W a)) : PE X (.UnaryOp .Not ea pos) (tE Z Fo W (blM (notT (opd1 a truM)))) :=
  (pe_notT ha).imp fun σ H Q h => rd_tru (W := W) hK (by
    obtain ⟨g, m, G, h⟩ := rd_bl h
    exact ⟨g, m, G, (Pg.bind (R := RB) h).imp fun k H' ⟨d, g', m', G', E, e, _, p⟩ => by subst e; exact p _ _ _ G' .rfl' rfl⟩)
theorem de_and (hK : X.K = Z.K) (ha : PE X ea (tE Z Fo W f)) (hb : PE X (.BoolOp .And (eb :: rest) pos) (tE Z Fo W r)) : PE X (.BoolOp .And (ea :: eb :: rest) pos) (tE Z Fo W (andM f r)) :=
  (pe_andT ha hb).imp fun σ H Q h => rd_andM hK h
theorem de_or (hK : X.K = Z.K) (ha : PE X ea (tE Z Fo W f)) (hb : PE X (.BoolOp .Or (eb :: rest) pos) (tE Z Fo W r)) : PE X (.BoolOp .Or (ea :: eb :: rest) pos) (tE Z Fo W (orM f r)) :=
  (pe_orT ha hb).imp fun σ H Q h => rd_orM hK h
theorem de_ite (hc : PT X ec (tT Z Fo W tf)) (ha : PE X ea (tE Z Fo W f)) (hb : PE X eb (tE Z Fo W r)) : PE X (.IfExp ec ea eb pos) (tE Z Fo W (iteM tf f r)) :=
  (pe_ifExp hc ha hb).imp fun σ H Q h => rd_ite h
theorem dt_and (ha : PT X ea (tT Z Fo W tf)) (hb : PW X (.BoolOp .And (eb :: rest) pos) (tT Z Fo W tr)) : PW X (.BoolOp .And (ea :: eb :: rest) pos) (tT Z Fo W (andT tf tr)) :=
  ⟨fun wh pins s σ H Q I k => (pw_and ha hb).run wh pins s σ H Q I (rd_and k)⟩
theorem dt_or (ha : PT X ea (tT Z Fo W tf)) (hb : PW X (.BoolOp .Or (eb :: rest) pos) (tT Z Fo W tr)) : PW X (.BoolOp .Or (ea :: eb :: rest) pos) (tT Z Fo W (orT tf tr)) :=
  ⟨fun wh pins s σ H Q I k => (pw_or ha hb).run wh pins s σ H Q I (rd_or k)⟩
theorem dt_not (ha : PT X ea (tT Z Fo W tf)) : PT X (.UnaryOp .Not ea pos) (tT Z Fo W (notT tf)) := (pt_not ha).imp fun σ H Q h => rd_not h
def plainT : Expr → Bool
  | .UnaryOp .Not _ _ => false
  | .BoolOp .. => false
  | .IfExp .. => false
  | .Compare .. => false
  | _ => true
theorem plainT_eq {e : Expr} (h : plainT e = true) (env : Env) (whole : Sem Value) : isTrue e env whole = (do let v ← whole; standAt e.pos; holding [v] (truthy v)) := by
  cases e with
  | UnaryOp o x p => cases o <;> first | rfl | cases h
  | BoolOp => cases h
  | IfExp => cases h
  | Compare => cases h
  | _ => rfl
theorem dt_tru (hK : X.K = Z.K) (hp : plainT ea = true) (ha : PE X ea (tO Z Fo W a)) : PT X ea (tT Z Fo W (opd1 a truM)) :=
  (pt_truth ha (plainT_eq hp _)).imp fun σ H Q h => rd_tru hK h
end
end LB

namespace LB
open PySem L2

/-! ### built-in functions of one operand -/
def flatT : D → Option Bool
  | .non => some false
  | .bl b => some b
  | .int i => some (i != 0)
  | _ => none
def flatTs : List D → Option (List Bool)
  | [] => some []
  | d :: r => match flatT d, flatTs r with
    | some b, some bs => some (b :: bs)
    | _, _ => none
def intD : D → Option Int
  | .int i => some i
  | _ => none
def intsD : List D → Option (List Int)
  | [] => some []
  | d :: r => match intD d, intsD r with
    | some b, some bs => some (b :: bs)
    | _, _ => none
def tyD : D → Option String
  | .non => some "NoneType" | .bl _ => some "bool" | .int _ => some "int" | .str _ => some "str"
  | .tup _ => some "tuple" | .ktp _ => some "tuple" | .lst _ => some "list" | .dct _ _ => some "dict" | .kdc _ => some "dict"
  | _ => none
/-- of a type, or not -/
def isiD (c : String) (d : D) : Option Bool := (tyD d).bind fun t => if t = c then some true else if (t = "bool" ∧ c = "int") then some true else if c ∈ ["int", "str", "bool", "tuple", "list", "dict"] then some false else none
inductive Bi1 where
  | len | tuple | int | abs | all | any | sum | min | max | repr | isi (c : String)
def lenD : D → Option Nat
  | .str x => if x.length ≤ sizeLine then some x.length else none
  | .tup ds => some ds.length
  | .ktp ds => some ds.length
  | .lst ds => some ds.length
  | .dct false kvs => some kvs.length
  | _ => none
mutual
/-- no lists, no dicts but empty ones -/
def rpB : D → Bool
  | .non => true | .bl _ => true | .int _ => true | .str _ => true
  | .tup ds => rpsB ds
  | .ktp ds => rpsB ds
  | .dct false [] => true
  | _ => false
def rpsB : List D → Bool
  | [] => true
  | d :: r => rpB d && rpsB r
end
def repD (d : D) : Option Str := if (SeqAt.shaped d.toP || (rpB d && decide (d.toP.depth ≤ 64))) && d.toP.showable && decide (d.toP.shown.length ≤ sizeLine) then some d.toP.shown else none
def minL : Int → List Int → Int
  | a, [] => a
  | a, b :: r => minL (if b < a then b else a) r
def maxL : Int → List Int → Int
  | a, [] => a
  | a, b :: r => maxL (if b > a then b else a) r
def bi1D : Bi1 → D → Option D
  | .len, d => (lenD d).map fun (n : Nat) => D.int (n : Int)
  | .tuple, .tup ds => some (.tup ds)
  | .tuple, .lst ds => some (.tup ds)
  | .int, .int i => some (.int i)
  | .int, .bl b => some (.int (if b then 1 else 0))
  | .abs, .int i => some (.int (if i < 0 then -i else i))
  | .all, .lst ds => (flatTs ds).map fun bs => .bl (bs.all id)
  | .any, .lst ds => (flatTs ds).map fun bs => .bl (bs.any id)
  | .sum, .lst ds => (intsD ds).map fun ns => .int ns.sum
  | .min, .lst ds => (intsD ds).bind fun ns => match ns with
    | [] => none
    | n :: r => some (.int (minL n r))
  | .max, .lst ds => (intsD ds).bind fun ns => match ns with
    | [] => none
    | n :: r => some (.int (maxL n r))
  | .repr, d => (repD d).map .str
  | .isi c, d => (isiD c d).map .bl
  | _, _ => none
theorem minL_spec : ∀ (r : List Int) (a : Int), minL a r ∈ a :: r ∧ ∀ y ∈ a :: r, minL a r ≤ y
  | [], a => ⟨List.mem_cons_self, fun y h => by simp at h; subst h; exact Int.le_refl _⟩
  | b :: r, a => by
    obtain ⟨h1, h2⟩ := minL_spec r (if b < a then b else a)
    refine ⟨?_, fun y h => ?_⟩
    · show minL (if b < a then b else a) r ∈ a :: b :: r
      rcases List.mem_cons.mp h1 with h | h
      · rw [h]; split <;> simp
      · exact List.mem_cons_of_mem _ (List.mem_cons_of_mem _ h)
    · show minL (if b < a then b else a) r ≤ y
      generalize hq : (if b < a then b else a) = q at h2 ⊢
      have h0 := h2 q List.mem_cons_self
      rcases List.mem_cons.mp h with rfl | h
      · split at hq <;> omega
      · rcases List.mem_cons.mp h with rfl | h
        · split at hq <;> omega
        · exact h2 y (List.mem_cons_of_mem _ h)
theorem maxL_spec : ∀ (r : List Int) (a : Int), maxL a r ∈ a :: r ∧ ∀ y ∈ a :: r, y ≤ maxL a r
  | [], a => ⟨List.mem_cons_self, fun y h => by simp at h; subst h; exact Int.le_refl _⟩
  | b :: r, a => by
    obtain ⟨h1, h2⟩ := maxL_spec r (if b > a then b else a)
    refine ⟨?_, fun y h => ?_⟩
    · show maxL (if b > a then b else a) r ∈ a :: b :: r
      rcases List.mem_cons.mp h1 with h | h
      · rw [h]; split <;> simp
      · exact List.mem_cons_of_mem _ (List.mem_cons_of_mem _ h)
    · show y ≤ maxL (if b > a then b else a) r
      generalize hq : (if b > a then b else a) = q at h2 ⊢
      have h0 := h2 q List.mem_cons_self
      rcases List.mem_cons.mp h with rfl | h
      · split at hq <;> omega
      · rcases List.mem_cons.mp h with rfl | h
        · split at hq <;> omega
        · exact h2 y (List.mem_cons_of_mem _ h)
section
variable {Z : Stc} {Fo : Hp} {W : WX} {g g' : Gh} {m m' : Mst} {σ : L2.St} {H : Hp} {N N' : Nat} {G0 : Hp} {μ0 : Nat → Addr} {X : Cx}
theorem DVs.ofInts : ∀ {ds : List D} {vs : List V} {ns : List Int}, DVs Z G0 μ0 N ds vs → intsD ds = some ns → vs = ns.map V.int
  | _, _, _, .nil, h => by cases h; rfl
  | d :: ds, v :: vs, ns, .cons h1 h2, h => by
    unfold intsD at h
    cases d with
    | int i =>
      cases e2 : intsD ds with
      | none => rw [e2] at h; cases h
      | some ks' =>
        rw [e2] at h
        cases h
        cases h1
        rw [DVs.ofInts h2 e2]
        rfl
    | _ => cases h
theorem truth_flat {P : Program} {w : World} {A : Around} : ∀ {ds : List D} {vs : List V} {its : List Value} {bs : List Bool}, DVs Z G0 μ0 N ds vs → Vals vs its → flatTs ds = some bs → bs.length = its.length ∧
    ∀ i v, its[i]? = some v → ∀ (s : Shared) (Q : Bool → Shared → Prop) (E : Value → Shared → Prop), Q (bs.getD i false) s → wpAny (model P w) A (truthy v) Q E s
  | _, _, _, _, .nil, .nil, h => by
    cases h
    exact ⟨rfl, fun i v e => by simp at e⟩
  | d :: ds, _, _, bs, .cons h1 h2, .cons r1 r2, h => by
    unfold flatTs at h
    cases e1 : flatT d with
    | none => rw [e1] at h; cases h
    | some b =>
      cases e2 : flatTs ds with
      | none => rw [e1, e2] at h; cases h
      | some bs' =>
        rw [e1, e2] at h
        cases h
        obtain ⟨l, ih⟩ := truth_flat (P := P) (w := w) (A := A) h2 r2 e2
        refine ⟨by simp [l], fun i v e s Q E q => ?_⟩
        cases i with
        | zero =>
          cases e
          have q : Q b s := q
          cases d with
          | non => cases e1; cases h1; cases r1; exact PyProof.Rows.truthy_none q
          | bl b' => cases e1; cases h1; cases r1; exact wpAny_truthy_bool q
          | int i => cases e1; cases h1; obtain ⟨t, rfl⟩ := r1; exact PyProof.Rows.truthy_int q
          | _ => cases e1
        | succ i => exact ih i v (by simpa using e) s Q E (by simpa using q)
theorem PV.typ {d : D} {v : V} {t : String} (G : Good Z Fo g m σ H) (r : PV Z g m.S.length H d v) (h : tyD d = some t) : TyX Z.K H v (.type t) := by
  cases d with
  | non => cases h; rw [r.non]; exact .base .non
  | bl b => cases h; rw [r.bl]; exact .base (.bl b)
  | int b => cases h; rw [r.int]; exact .base (.int b)
  | str b => cases h; rw [r.str]; exact .base (.str b)
  | tup ds => cases h; obtain ⟨a, vs, rfl, ha, _⟩ := r.tup' G; exact .base (.tup ha)
  | ktp ds =>
    cases h
    obtain ⟨a, vs, rfl, ha, _⟩ := r.ktp G
    rcases ha with (ha | ⟨o, ha⟩) | ⟨o, its, n, hl, hc, _⟩
    · exact .base (.tup ha)
    · exact .fTuple ha
    · exact .kTuple hl hc
  | lst ds =>
    cases h
    obtain ⟨a, vs, rfl, ha, _⟩ := r.lst G
    rcases ha with ha | ⟨o, ha⟩
    · exact .base (.lst ha)
    · exact .base (.frz ha)
  | dct t kvs =>
    cases h
    cases t with
    | false => obtain ⟨a, vs, rfl, ha, _⟩ := r.dct0 G; exact .base (.dK ha)
    | true => obtain ⟨a, vs, rfl, ha, _⟩ := r.dct1 G; exact .base (.dT ha)
  | kdc kvs =>
    cases h
    obtain ⟨a, es, n, rfl, kd, _⟩ := r.kdc
    exact .kDict kd.at_ rfl
  | _ => cases h
mutual
theorem hasDict_of_canLay : ∀ {d : PyData}, d.canLay0 = true → d.hasDict = false
  | .none, _ => rfl
  | .bool _, _ => rfl
  | .int _, _ => rfl
  | .str _, _ => rfl
  | .list xs, h => by simp only [PyData.canLay0] at h; simp only [PyData.hasDict]; exact hasDicts_of_canLay h
  | .tuple xs, h => by simp only [PyData.canLay0] at h; simp only [PyData.hasDict]; exact hasDicts_of_canLay h
  | .dict _, h => by cases h
theorem hasDicts_of_canLay : ∀ {ds : List PyData}, PyData.canLayAll0 ds = true → PyData.hasDictAll ds = false
  | [], _ => rfl
  | d :: ds, h => by
    simp only [PyData.canLayAll0, Bool.and_eq_true] at h
    simp only [PyData.hasDictAll, hasDict_of_canLay h.1, hasDicts_of_canLay h.2, Bool.or_self]
end
def clsNames : List String := ["int", "str", "bool", "tuple", "list", "dict"]
def tyNames : List String := ["NoneType", "bool", "int", "str", "tuple", "list", "dict"]
theorem kit_all : (tyNames.all fun t => clsNames.all fun c => kitB t c == some (t == c || (t == "bool" && c == "int"))) = true := by decide +kernel
theorem isi_kit {c : String} {d : D} {k : Bool} (h : isiD c d = some k) : ∃ t, tyD d = some t ∧ (c ∈ clsNames → kitB t c = some k) := by
  unfold isiD at h
  cases e : tyD d with
  | none => rw [e] at h; cases h
  | some t =>
    rw [e] at h
    have ht : t ∈ tyNames := by cases d <;> cases e <;> decide
    refine ⟨t, rfl, fun hc => ?_⟩
    have q := List.all_eq_true.mp (List.all_eq_true.mp kit_all t ht) c hc
    rw [beq_iff_eq] at q
    rw [q]
    dsimp only [Option.bind] at h
    by_cases c1 : t = c
    · rw [if_pos c1] at h; cases h; simp [c1]
    · rw [if_neg c1] at h
      by_cases c2 : t = "bool" ∧ c = "int"
      · rw [if_pos c2] at h; cases h; simp [c2.1, c2.2]
      · rw [if_neg c2, if_pos (show c ∈ ["int", "str", "bool", "tuple", "list", "dict"] from hc)] at h
        cases h
        have e1 : (t == c) = false := by simpa using c1
        have e2 : (t == "bool" && c == "int") = false := by
          cases q1 : (t == "bool") <;> cases q2 : (c == "int") <;> simp_all
        rw [e1, e2]; rfl
/-- a rule over what one operand is, told without a change -/
abbrev rP (Z : Stc) (Fo : Hp) (f : D → Option D) : List V → Hp → VK → Prop := fun xs H Q => ∃ g m σ x d e, xs = [x] ∧ Good Z Fo g m σ H ∧ PV Z g m.S.length H d x ∧ f d = some e ∧ ∀ v H' g', Good Z Fo g' m σ H' → Ext Fo g m.S.length g' m.S.length → DV Z g'.G g'.μ m.S.length e v → Q v H'
def Bi1.fn : Bi1 → Value
  | .len => .builtin "len" | .tuple => .type "tuple" | .int => .type "int" | .abs => .builtin "abs" | .all => .builtin "all" | .any => .builtin "any" | .sum => .builtin "sum"
  | .min => .builtin "min" | .max => .builtin "max" | .repr => .builtin "repr" | .isi _ => .builtin "isinstance"
def Bi1.nm : Bi1 → Str
  | .len => "len" | .tuple => "tuple" | .int => "int" | .abs => "abs" | .all => "all" | .any => "any" | .sum => "sum"
  | .min => "min" | .max => "max" | .repr => "repr" | .isi _ => "isinstance"
theorem bi_walk {P : Program} {w : World} {ds : List D} {vs : List V} {bs : List Bool} {pins : List (Addr × Obj)} {s : Shared} {a : Addr} (hc : X.calm = true) (I : L2.Inv X pins σ H s) (hl : Rd H a (.lst vs)) (dv : DVs Z G0 μ0 N ds vs) (hb : flatTs ds = some bs) :
    ∃ its : List Value, s.heap.IsList a its.toArray ∧ bs.length = its.length ∧ (∀ A : Around, TruthOf P w A (fun i v => its.toArray[i]? = some v) (fun i => bs.getD i false)) := by
  obtain ⟨z, its, n, r, e⟩ := I.lstR hl
  obtain ⟨l, t⟩ := truth_flat (P := P) (w := w) (A := X.A) dv r hb
  exact ⟨its, ⟨_, e, rfl, _, rfl⟩, l, fun A i v s Q E hv hq => (truth_flat (P := P) (w := w) (A := A) dv r hb).2 i v (by simpa using hv) s Q E hq⟩
theorem rds_dict {pins : List (Addr × Obj)} {s : Shared} {a : Addr} {σ' : L2.St} (I : L2.Inv X pins σ' H s) (h : H a = some (.dK [])) : ∃ as, Reads s.heap (.ref a) (D.dct false []).toP as ∧ sysModules ∉ as := by
  obtain ⟨_, ne, vs, kv, o, es, ep, e1, e2, e3, _, pr, _⟩ := dk_of I.hok h
  cases kv
  have e0 : es.toList = [] := by
    cases q : es.toList with
    | nil => rfl
    | cons x l => rw [q] at pr; cases pr
  refine ⟨[a], .dict (as := []) (bs := []) e1 e2.1 e3 (by rw [e0]; exact .nil) (by rw [e0]; exact .nil), fun z => ?_⟩
  have := List.mem_singleton.mp z
  rw [← this] at ne
  simp at ne
mutual
theorem DV.rds {pins : List (Addr × Obj)} {s : Shared} {σ' : L2.St} (I : L2.Inv X pins σ' H s) (hK : X.K = Z.K) (gh : ∀ a o, G0 a = some o → H a = some o) : ∀ {d : D} {v : V} {u : Value}, DV Z G0 μ0 N d v → rpB d = true → RelV v u → ∃ as, Reads s.heap u d.toP as ∧ sysModules ∉ as
  | _, _, u, .non, _, r => by cases r; exact ⟨[], .none, List.not_mem_nil⟩
  | _, _, u, .bl b, _, r => by cases r; exact ⟨[], .bool b, List.not_mem_nil⟩
  | _, _, u, .int i, _, r => by obtain ⟨t, rfl⟩ := r; exact ⟨[], .int i t, List.not_mem_nil⟩
  | _, _, u, .str x, _, r => by obtain ⟨t, rfl⟩ := r; exact ⟨[], .str x t, List.not_mem_nil⟩
  | .tup ds, _, u, .tup h rs, c, r => by
    obtain rfl : u = Value.ref _ := r
    obtain ⟨_, its, rv, ⟨o, e1, e2, n, e3⟩⟩ := I.hok _ _ (gh _ _ h)
    obtain ⟨as, ra, no⟩ := DVs.rds I hK gh rs (by simpa [rpB] using c) rv
    exact ⟨as, .tuple e1 e2 e3 (by simpa using ra), no⟩
  | .ktp ds, _, u, .ktp (a := a) (vs := vs) h rs, c, r => by
    obtain rfl : u = Value.ref a := r
    have h' : SqT X.K H a vs := by rw [hK]; exact h.imp_left (rd_mor gh)
    obtain ⟨its, rv, ⟨o, e1, e2, n, e3⟩, _⟩ := I.tuple h'
    obtain ⟨as, ra, no⟩ := DVs.rds I hK gh rs (by simpa [rpB] using c) rv
    exact ⟨as, .tuple e1 e2 e3 (by simpa using ra), no⟩
  | .dct false [], _, u, .dk h rs, c, r => by
    obtain rfl : u = Value.ref _ := r
    cases rs
    exact rds_dict I (gh _ _ h)
  | .dct false (_ :: _), _, _, .dk _ _, c, _ => by simp [rpB] at c
  | .dct true _, _, _, .dt _ _, c, _ => by simp [rpB] at c
  | .lst _, _, _, .lst _ _, c, _ => by simp [rpB] at c
  | .kdc _, _, _, .kd _ _, c, _ => by simp [rpB] at c
  | .ref _, _, _, .ref _, c, _ => by simp [rpB] at c
  | .glo _, _, _, .glo _, c, _ => by simp [rpB] at c
theorem DVs.rds {pins : List (Addr × Obj)} {s : Shared} {σ' : L2.St} (I : L2.Inv X pins σ' H s) (hK : X.K = Z.K) (gh : ∀ a o, G0 a = some o → H a = some o) : ∀ {ds : List D} {vs : List V} {us : List Value}, DVs Z G0 μ0 N ds vs → rpsB ds = true → Vals vs us → ∃ as, ReadsAll s.heap us (D.toPs ds) as ∧ sysModules ∉ as
  | _, _, _, .nil, _, .nil => ⟨[], .nil, List.not_mem_nil⟩
  | _, _, _, .cons h rs, c, .cons r1 r2 => by
    rw [rpsB, Bool.and_eq_true] at c
    obtain ⟨a1, e1, n1⟩ := DV.rds I hK gh h c.1 r1
    obtain ⟨a2, e2, n2⟩ := DVs.rds I hK gh rs c.2 r2
    exact ⟨a1 ++ a2, .cons e1 e2, fun z => (List.mem_append.mp z).elim n1 n2⟩
end
theorem PV.rds {pins : List (Addr × Obj)} {s : Shared} {d : D} {v : V} {u : Value} {σ' : L2.St} (pd : PV Z g m.S.length H d v) (G : Good Z Fo g m σ H) (I : L2.Inv X pins σ' H s) (hK : X.K = Z.K) (c : rpB d = true) (r : RelV v u) : ∃ as, Reads s.heap u d.toP as ∧ sysModules ∉ as := by
  rcases pd with pd | ⟨a, h, o, rfl, ha, rfl, ro⟩
  · exact pd.rds I hK G.s.gh c r
  · obtain rfl : u = Value.ref a := r
    cases o with
    | lst ds => simp [Ob.d, rpB] at c
    | dct t kvs =>
      cases t with
      | true => simp [Ob.d, rpB] at c
      | false =>
        cases kvs with
        | cons _ _ => simp [Ob.d, rpB] at c
        | nil =>
          obtain ⟨ks, rfl, rs⟩ := ro
          cases rs
          exact rds_dict I ha
theorem bi1_rule (hK : X.K = Z.K) (hc : X.calm = true) (hg : X.A.guards = some []) (hu : X.A.units + 66 < cLine) (b : Bi1) (hn : ∀ c, b = .isi c → False) : CallR X b.fn (rP Z Fo (bi1D b)) := by
  intro pins s σ' H' xs us Q I r ⟨g, m, σ, x, d, e, exs, G, pd, hd, q⟩
  subst exs
  obtain ⟨u, eu, rx⟩ := r.one
  have new : ∀ {xs : List D} {vs : List V}, DVs Z g.G g.μ m.S.length xs vs → (∀ v H'' g', Good Z Fo g' m σ H'' → Ext Fo g m.S.length g' m.S.length → DV Z g'.G g'.μ m.S.length (.tup xs) v → Q v H'') → ∀ p, H' p = none → Q (.ref p) (upd H' p (.tup vs)) := fun {xs vs} r h p n => by
    obtain ⟨G2, E2⟩ := G.laid (h := .tup vs) n
    exact h _ _ _ G2 E2 (.tup (show upd g.G p _ p = _ from upd_same) (r.ext E2))
  have old : ∀ {v : V}, DV Z g.G g.μ m.S.length e v → Q v H' := fun h => q _ _ _ G .rfl' h
  cases b with
  | isi c => exact (hn c rfl).elim
  | len =>
    cases hl : lenD d with
    | none => simp [bi1D, hl] at hd
    | some n =>
      simp only [bi1D, hl, Option.map_some, Option.some.injEq] at hd
      subst hd
      have sq : ∀ {vs : List V} {p : Addr} {k : Nat}, x = .ref p → (SqL X.K H' p vs ∨ SqT X.K H' p vs) → vs.length = k → DV Z g.G g.μ m.S.length (.int k) (.int k) → (k = n) → wpAny (model X.prog X.w) X.A (call (.builtin "len") us) (EP X pins σ' Q) X.xe s := fun {vs p k} e1 h1 h2 _ h3 => by
        subst e1 h3 h2
        exact call_len_seq pins s σ' H' _ us Q I r ⟨p, vs, rfl, h1, old (.int _)⟩
      cases d with
      | str z =>
        dsimp only [lenD] at hl
        by_cases c : z.length ≤ sizeLine
        · rw [if_pos c] at hl
          cases hl
          rw [pd.str] at r
          exact call_len_str pins s σ' H' _ us Q I r ⟨z, rfl, c, old (.int _)⟩
        · rw [if_neg c] at hl; cases hl
      | tup ds => obtain ⟨a, vs, ex, ha, _, dv⟩ := pd.tup G; exact sq ex (.inr (hK ▸ ha)) dv.length.symm (.int _) (Option.some.inj hl)
      | ktp ds => obtain ⟨a, vs, ex, ha, dv⟩ := pd.ktp G; exact sq ex (.inr (hK ▸ ha)) dv.length.symm (.int _) (Option.some.inj hl)
      | lst ds => obtain ⟨a, vs, ex, ha, dv⟩ := pd.lst G; exact sq ex (.inl (.inl ha)) dv.length.symm (.int _) (Option.some.inj hl)
      | dct t kvs =>
        cases t with
        | true => cases hl
        | false =>
          cases hl
          obtain ⟨a, ks, rfl, ha, dv⟩ := pd.dct0 G
          subst eu
          cases rx
          have el : kvs.length = ks.length := dv.length
          exact d_len I (.inl ha) fun t s' I' => ⟨.int ks.length, H', I', ⟨t, rfl⟩, old (by rw [el]; exact .int _)⟩
      | _ => cases hl
  | tuple =>
    match d, hd with
    | .tup ds, hd =>
      cases hd
      obtain ⟨a, vs, rfl, ha, hg, dv⟩ := pd.tup G
      exact call_tuple_of pins s σ' H' _ us Q I r ⟨a, vs, rfl, .inr ⟨hK ▸ ha, old (.tup hg dv)⟩⟩
    | .lst ds, hd =>
      cases hd
      obtain ⟨a, vs, rfl, ha, dv⟩ := pd.lst G
      exact call_tuple_of pins s σ' H' _ us Q I r ⟨a, vs, rfl, .inl ⟨.inl ha, new dv q⟩⟩
  | int =>
    match d, hd with
    | .int i, hd => cases hd; rw [pd.int] at r; exact call_int1 pins s σ' H' _ us Q I r (.inl ⟨i, rfl, old (.int _)⟩)
    | .bl i, hd => cases hd; rw [pd.bl] at r; exact call_int1 pins s σ' H' _ us Q I r (.inr ⟨i, rfl, old (.int _)⟩)
  | abs =>
    match d, hd with
    | .int i, hd => cases hd; rw [pd.int] at r; exact call_abs pins s σ' H' _ us Q I r ⟨i, rfl, old (.int _)⟩
  | sum =>
    match d, hd with
    | .lst ds, hd =>
      obtain ⟨a, vs, rfl, ha, dv⟩ := pd.lst G
      cases hi : intsD ds with
      | none => simp [bi1D, hi] at hd
      | some ns =>
        simp only [bi1D, hi, Option.map_some, Option.some.injEq] at hd
        subst hd
        have ev := dv.ofInts hi
        subst ev
        exact cr_sum hc pins s σ' H' _ us Q I r ⟨a, ns, rfl, .inl ha, old (.int _)⟩
  | min =>
    match d, hd with
    | .lst ds, hd =>
      obtain ⟨a, vs, rfl, ha, dv⟩ := pd.lst G
      cases hi : intsD ds with
      | none => simp [bi1D, hi] at hd
      | some ns =>
        have ev := dv.ofInts hi
        subst ev
        cases ns with
        | nil => simp [bi1D, hi] at hd
        | cons n ns =>
          simp only [bi1D, hi, Option.bind_some, Option.some.injEq] at hd
          subst hd
          refine cr_min hc pins s σ' H' _ us Q I r ⟨a, n :: ns, rfl, .inl ha, Nat.succ_pos _, fun k h1 h2 => ?_⟩
          obtain ⟨h3, h4⟩ := minL_spec ns n
          have e : k = minL n ns := by have a1 := h2 _ h3; have a2 := h4 _ h1; omega
          rw [e]
          exact old (.int _)
  | max =>
    match d, hd with
    | .lst ds, hd =>
      obtain ⟨a, vs, rfl, ha, dv⟩ := pd.lst G
      cases hi : intsD ds with
      | none => simp [bi1D, hi] at hd
      | some ns =>
        have ev := dv.ofInts hi
        subst ev
        cases ns with
        | nil => simp [bi1D, hi] at hd
        | cons n ns =>
          simp only [bi1D, hi, Option.bind_some, Option.some.injEq] at hd
          subst hd
          refine cr_max hc pins s σ' H' _ us Q I r ⟨a, n :: ns, rfl, .inl ha, Nat.succ_pos _, fun k h1 h2 => ?_⟩
          obtain ⟨h3, h4⟩ := maxL_spec ns n
          have e : k = maxL n ns := by have a1 := h2 _ h3; have a2 := h4 _ h1; omega
          rw [e]
          exact old (.int _)
  | all =>
    match d, hd with
    | .lst ds, hd =>
      obtain ⟨a, vs, rfl, ha, dv⟩ := pd.lst G
      cases hi : flatTs ds with
      | none => simp [bi1D, hi] at hd
      | some bs =>
        simp only [bi1D, hi, Option.map_some, Option.some.injEq] at hd
        subst hd
        subst eu
        cases rx
        obtain ⟨its, il, bl, tr⟩ := bi_walk (P := X.prog) (w := X.w) hc I ha dv hi
        refine call_all_walk (iter_any il fun s₂ e2 st hne => ?_)
        subst e2
        refine ⟨_, _, _, _, _, _, _, rfl, Walks.list (A := X.A.in1) (I.ok.hd hc) _ a hne its.toArray, st, tr _, fun h' tk hk => ⟨.bl (bs.all id), H', I.kept fun b o eo => hk b o (fun hm => ?_) (Heap.get?_push_of_some _ eo), ?_, old (.bl _)⟩⟩
        · rcases List.mem_cons.mp hm with e1 | hm
          · exact absurd (e1 ▸ Heap.lt_size eo) (Nat.lt_irrefl _)
          · cases hm
        · show Value.bool _ = Value.bool _
          rw [← all_range, bl, List.size_toArray]
  | any =>
    match d, hd with
    | .lst ds, hd =>
      obtain ⟨a, vs, rfl, ha, dv⟩ := pd.lst G
      cases hi : flatTs ds with
      | none => simp [bi1D, hi] at hd
      | some bs =>
        simp only [bi1D, hi, Option.map_some, Option.some.injEq] at hd
        subst hd
        subst eu
        cases rx
        obtain ⟨its, il, bl, tr⟩ := bi_walk (P := X.prog) (w := X.w) hc I ha dv hi
        refine call_any_walk (iter_any il fun s₂ e2 st hne => ?_)
        subst e2
        refine ⟨_, _, _, _, _, _, _, rfl, Walks.list (A := X.A.in1) (I.ok.hd hc) _ a hne its.toArray, st, tr _, fun h' tk hk => ⟨.bl (bs.any id), H', I.kept fun b o eo => hk b o (fun hm => ?_) (Heap.get?_push_of_some _ eo), ?_, old (.bl _)⟩⟩
        · rcases List.mem_cons.mp hm with e1 | hm
          · exact absurd (e1 ▸ Heap.lt_size eo) (Nat.lt_irrefl _)
          · cases hm
        · show Value.bool _ = Value.bool _
          rw [← any_range, bl, List.size_toArray]
  | repr =>
    cases hr : repD d with
    | none => simp [bi1D, hr] at hd
    | some z =>
      simp only [bi1D, hr, Option.map_some, Option.some.injEq] at hd
      subst hd
      subst eu
      unfold repD at hr
      by_cases c : ((SeqAt.shaped d.toP || (rpB d && decide (d.toP.depth ≤ 64))) && d.toP.showable && decide (d.toP.shown.length ≤ sizeLine)) = true
      · rw [if_pos c] at hr
        cases hr
        obtain ⟨c0, c3⟩ := Bool.and_eq_true_iff.mp c
        obtain ⟨c1, c2⟩ := Bool.and_eq_true_iff.mp c0
        have c4 := of_decide_eq_true c3
        have rds : ∃ as, Reads s.heap u d.toP as ∧ (d.toP.hasDict = true → sysModules ∉ as) ∧ d.toP.depth ≤ 64 := by
          rcases Bool.or_eq_true_iff.mp c1 with c1 | c1
          · have cl := SeqAt.canLay_of_shaped c1
            obtain ⟨as, rd⟩ := Dp.reads I d.toP x u (hK ▸ pd.dp G cl) rx
            refine ⟨as, rd, PyData.noDict_hsm (hasDict_of_canLay cl), ?_⟩
            unfold SeqAt.shaped at c1
            exact of_decide_eq_true (Bool.and_eq_true_iff.mp c1).2
          · obtain ⟨c5, c6⟩ := Bool.and_eq_true_iff.mp c1
            obtain ⟨as, rd, no⟩ := pd.rds G I hK c5 rx
            exact ⟨as, rd, fun _ => no, of_decide_eq_true c6⟩
        obtain ⟨as, rd, hsm, dep⟩ := rds
        have fin : ∀ {t : Shared} {tk : Tok}, L2.Inv X pins σ' H' t → EP X pins σ' Q (.str d.toP.shown tk) t := fun {t tk} I' => ⟨.str _, H', I', ⟨_, rfl⟩, old (.str _)⟩
        cases hq : d.toP with
        | none =>
          rw [hq] at rd fin
          cases rd
          exact PySem.P.repr_of_none (fin (I.tok _))
        | bool b =>
          rw [hq] at rd fin
          cases rd
          exact PySem.P.repr_of_bool (fin (I.tok _))
        | int i =>
          rw [hq] at rd fin c2
          cases rd
          exact PySem.P.repr_of_int (of_decide_eq_true (by simpa [PyData.showable] using c2)) (fin (I.tok _))
        | str z =>
          rw [hq] at rd fin c4
          cases rd
          exact PySem.P.repr_of_str (fin (I.tok _)) (by simpa [PyData.shown] using c4)
        | list ds =>
          rw [hq] at rd fin c4 c2 hsm dep
          obtain ⟨a, rfl⟩ := PyProof.Rows.isRef_of_reads rd rfl
          exact repr_of_reads' rd c2 hsm hg (by omega) (fun _ _ e => e) (fun h' u tk hk => fin (I.kept (t' := tk) hk)) c4
        | tuple ds =>
          rw [hq] at rd fin c4 c2 hsm dep
          obtain ⟨a, rfl⟩ := PyProof.Rows.isRef_of_reads rd rfl
          exact repr_of_reads' rd c2 hsm hg (by omega) (fun _ _ e => e) (fun h' u tk hk => fin (I.kept (t' := tk) hk)) c4
        | dict k =>
          rw [hq] at rd fin c4 c2 hsm dep
          obtain ⟨a, rfl⟩ : ∃ a, u = .ref a := by cases rd; exact ⟨_, rfl⟩
          exact repr_of_reads' rd c2 hsm hg (by omega) (fun _ _ e => e) (fun h' u tk hk => fin (I.kept (t' := tk) hk)) c4
      · rw [if_neg c] at hr; cases hr
/-- b(x) -/
def bi1M (b : Bi1) (d : D) : Mo D := .opt (bi1D b d)
theorem rd_bi1 {f : D → Option D} {a : Opd} {Q : V → Hp → Prop} (h : tE Z Fo W (opd1 a fun d => .opt (f d)) σ H Q) : tO Z Fo W a σ H fun x H' => rP Z Fo f [x] H' Q := by
  obtain ⟨g, m, G, h⟩ := h
  refine rd_opd1 G h fun g' m' H' x d G' _ px p => ?_
  cases hk : f d with
  | none => simp only [hk] at p; exact p.elim
  | some k =>
    simp only [hk] at p
    exact ⟨g', m', σ, x, d, k, rfl, G', px, hk, p⟩
theorem de_bi1 {ea : Expr} {a : Opd} {p pos : Pos} {nm : Str} (hK : X.K = Z.K) (hc : X.calm = true) (hgu : X.A.guards = some []) (hu : X.A.units + 66 < cLine) (b : Bi1) (hn : ∀ c, b = .isi c → False) (hnm : nm = b.nm) (hg : Gl X nm) (hm : X.mg nm = none)
    (he : starEach [ea] X.env = [(false, eval ea X.env)]) (ha : PE X ea (tO Z Fo W a)) : PE X (.Call (.Name nm p) [ea] [] pos) (tE Z Fo W (opd1 a (bi1M b))) := by
  subst hnm
  have R := bi1_rule (Z := Z) (Fo := Fo) hK hc hgu hu b hn
  have A1 : PA X [ea] (tCons (tO Z Fo W a) tNil) := pa_cons ha pa_nil he
  cases b with
  | isi c => exact (hn c rfl).elim
  | len => exact (pe_callB R hg hm (by decide +kernel) A1 (he := he)).imp fun σ H Q h => rd_bi1 h
  | tuple => exact (pe_callTy R hg hm (by decide +kernel) A1 (he := he)).imp fun σ H Q h => rd_bi1 h
  | int => exact (pe_callTy R hg hm (by decide +kernel) A1 (he := he)).imp fun σ H Q h => rd_bi1 h
  | abs => exact (pe_callB R hg hm (by decide +kernel) A1 (he := he)).imp fun σ H Q h => rd_bi1 h
  | all => exact (pe_callB R hg hm (by decide +kernel) A1 (he := he)).imp fun σ H Q h => rd_bi1 h
  | any => exact (pe_callB R hg hm (by decide +kernel) A1 (he := he)).imp fun σ H Q h => rd_bi1 h
  | sum => exact (pe_callB R hg hm (by decide +kernel) A1 (he := he)).imp fun σ H Q h => rd_bi1 h
  | min => exact (pe_callB R hg hm (by decide +kernel) A1 (he := he)).imp fun σ H Q h => rd_bi1 h
  | max => exact (pe_callB R hg hm (by decide +kernel) A1 (he := he)).imp fun σ H Q h => rd_bi1 h
  | repr => exact (pe_callB R hg hm (by decide +kernel) A1 (he := he)).imp fun σ H Q h => rd_bi1 h
end
end LB

namespace LB
open PySem L2

/-! ### items, cuts -/
def ixD (d k : D) : Option D := match d, k with
  | .tup ds, .int i => atI ds i
  | .lst ds, .int i => atI ds i
  | .ktp ds, .int i => atI ds i
  | .str z, .int i => if z.length ≤ sizeLine then (atI z.cps.toList i).map fun c => .str ⟨#[c]⟩ else none
  | d, k => (getD? d k).join
def cutD (ds : List D) (lo hi : Option Int) : List D := (ds.drop (HT.sIx ds.length 0 lo)).take (HT.sIx ds.length ds.length hi - HT.sIx ds.length 0 lo)
section
variable {Z : Stc} {Fo : Hp} {W : WX} {g g' : Gh} {m m' : Mst} {σ : L2.St} {H : Hp} {N N' : Nat} {G0 : Hp} {μ0 : Nat → Addr} {X : Cx}
theorem DVs.at {ds : List D} {vs : List V} {i : Int} {d : D} (h : DVs Z G0 μ0 N ds vs) (e : atI ds i = some d) : ∃ v, atI vs i = some v ∧ DV Z G0 μ0 N d v := by
  unfold atI at e ⊢
  rw [← h.length]
  cases q : ixN ds.length i with
  | none => rw [q] at e; cases e
  | some j =>
    rw [q] at e
    exact h.get e
theorem DVs.cut {ds : List D} {vs : List V} (lo hi : Option Int) (h : DVs Z G0 μ0 N ds vs) : DVs Z G0 μ0 N (cutD ds lo hi) (cutV vs lo hi) := by
  unfold cutD cutV
  rw [h.length]
  exact (h.drop _).take _
theorem plainIx {b : Expr} (h : ∀ lo hi p, b ≠ .Slice lo hi none p) : PlainIx b := fun o i => by
  cases b with
  | Slice lo hi st p =>
    cases st with
    | none => exact absurd rfl (h lo hi p)
    | some x => rfl
  | _ => rfl
theorem ix_rule (hK : X.K = Z.K) (hw : X.w = Z.w) (hu : X.A.units + 65 < cLine) : IxR X (fun x y H Q => ∃ g m σ d e k, Good Z Fo g m σ H ∧ PV Z g m.S.length H d x ∧ PV Z g m.S.length H e y ∧ ixD d e = some k ∧ ∀ v, DV Z g.G g.μ m.S.length k v → Q v H) := by
  intro value slice pins s σ H x y v u Q I rx ry ⟨g, m, σ', d, e, k, G, pd, pe, hk, q⟩ hs
  have dic : (getD? d e).join = some k → wpAny (model X.prog X.w) X.A (PyProof.Rows.subscriptTail value slice v u) (EP X pins σ Q) X.xe s := fun h => by
    cases h0 : getD? d e with
    | none => rw [h0] at h; cases h
    | some o =>
      rw [h0] at h
      cases o with
      | none => cases h
      | some d' =>
        cases h
        obtain ⟨ty, wp⟩ := asked_item hK hw hu (asked G pd pe h0) I rx ry fun z dz => q z dz
        exact PyProof.Rows.tail_any ty PySem.F.slot_dict_getitem.lookup wp hs
  unfold ixD at hk
  split at hk
  · obtain ⟨a, vs, rfl, ha, hg, dv⟩ := pd.tup G
    obtain ⟨z, ez, dz⟩ := dv.at hk
    exact ix_tup value slice pins s σ H _ y v u Q I rx ry ⟨a, vs, _, z, rfl, pe.int, hK ▸ ha, ez, q z dz⟩ hs
  · obtain ⟨a, vs, rfl, ha, dv⟩ := pd.lst G
    obtain ⟨z, ez, dz⟩ := dv.at hk
    exact ix_list value slice pins s σ H _ y v u Q I rx ry ⟨a, vs, _, z, rfl, pe.int, .inl ha, ez, q z dz⟩ hs
  · obtain ⟨a, vs, rfl, ha, dv⟩ := pd.ktp G
    obtain ⟨z, ez, dz⟩ := dv.at hk
    exact ix_tup value slice pins s σ H _ y v u Q I rx ry ⟨a, vs, _, z, rfl, pe.int, hK ▸ ha, ez, q z dz⟩ hs
  · rename_i z i
    by_cases c : z.length ≤ sizeLine
    · rw [if_pos c] at hk
      cases h0 : atI z.cps.toList i with
      | none => rw [h0] at hk; cases hk
      | some cc =>
        rw [h0] at hk
        cases hk
        exact ix_str value slice pins s σ H x y v u Q I rx ry ⟨z, i, cc, pd.str, pe.int, c, h0, q _ (.str _)⟩ hs
    · rw [if_neg c] at hk; cases hk
  · exact dic hk
def ixM (d k : D) : Mo D := .opt (ixD d k)
theorem de_ix {ea eb : Expr} {a b : Opd} {pos : Pos} (hK : X.K = Z.K) (hw : X.w = Z.w) (hu : X.A.units + 65 < cLine) (ha : PE X ea (tO Z Fo W a)) (hb : PE X eb (tO Z Fo W b)) (hs : ∀ lo hi p, eb ≠ .Slice lo hi none p) :
    PE X (.Subscript ea eb pos) (tE Z Fo W (opd2 a b ixM)) :=
  (pe_ix (ix_rule (Fo := Fo) hK hw hu) ha hb (plainIx hs)).imp fun σ H Q ⟨g, m, G, h⟩ => rd_opd2 G h fun g' m' H' x y d e G' _ px py p => by
    cases hk : ixD d e with
    | none => simp only [ixM, hk] at p; exact p.elim
    | some k =>
      simp only [ixM, hk] at p
      exact ⟨g', m', σ, d, e, k, G', px, py, hk, fun v dv => p v _ _ G' .rfl' dv⟩

/-- a part of a cut: left out, or an int -/
abbrev Prt := Option (Mo D)
def tP (Z : Stc) (Fo : Hp) (W : WX) : Prt → TO
  | none => tNoPart
  | some f => tPart (tE Z Fo W f)
def prtM : Prt → Mo (Option Int)
  | none => .ret none
  | some f => f.bind fun d => match d with
    | .int i => .ret (some i)
    | _ => .no
def slM {γ : Type} (a : Opd) (lo hi : Prt) (op : D → Option Int → Option Int → Mo γ) : Mo γ := fun m => (a.pre m).bind fun x => Mo.bind (prtM lo) fun l => Mo.bind (prtM hi) fun h => fun m => match a.get x m with
  | some d => op d l h m
  | none => .no
theorem prt_pass {γ δ : Type} {R' : Gh → Nat → Hp → γ → δ → Prop} {P : δ → Hp → Prop} {p : Prt} {f : Option Int → Mo γ} {R : Option Int → Hp → Prop} (G : Good Z Fo g m σ H) (h : Pg Z Fo W R' g m.S.length σ P ((prtM p m).bind f))
    (k : ∀ o H' g' m', Good Z Fo g' m' σ H' → Ext Fo g m.S.length g' m'.S.length → Pg Z Fo W R' g' m'.S.length σ P (f o m') → R o H') : tP Z Fo W p σ H R := by
  cases p with
  | none => exact k none H g m G .rfl' h
  | some fo =>
    have h' : Pg Z Fo W R' g m.S.length σ P ((fo m).bind fun d => Mo.bind (match d with | .int i => Mo.ret (some i) | _ => Mo.no) f) := by
      have e : (prtM (some fo) m).bind f = (fo m).bind fun d => Mo.bind (match d with | .int i => Mo.ret (some i) | _ => Mo.no) f := by
        show ((fo m).bind _).bind f = _
        cases fo m <;> rfl
      rw [← e]
      exact h
    refine ⟨g, m, G, (Pg.bind (R := RD Z) h').imp fun v H' ⟨d, g', m', G', E, dv, _, p⟩ => ?_⟩
    cases d with
    | int i => cases dv; exact ⟨i, rfl, k (some i) H' g' m' G' E p⟩
    | _ => exact p.elim
theorem rd_sl {γ δ : Type} {R' : Gh → Nat → Hp → γ → δ → Prop} {P : δ → Hp → Prop} {a : Opd} {lo hi : Prt} {op : D → Option Int → Option Int → Mo γ} {r : V → Option Int → Option Int → Hp → Prop} (G : Good Z Fo g m σ H) (h : Pg Z Fo W R' g m.S.length σ P (slM a lo hi op m))
    (hop : ∀ g' m' H x l u d, Good Z Fo g' m' σ H → PV Z g' m'.S.length H d x → Pg Z Fo W R' g' m'.S.length σ P (op d l u m') → r x l u H) :
    tO Z Fo W a σ H fun x H1 => tP Z Fo W lo σ H1 fun l H2 => tP Z Fo W hi σ H2 fun u H3 => r x l u H3 := by
  refine opd_pass G h fun v H' d g' m' G' E p pv => prt_pass G' p fun l H2 g2 m2 G2 E2 p2 => prt_pass G2 p2 fun u H3 g3 m3 G3 E3 p3 => ?_
  cases e : a.get d m3 with
  | none => simp only [e] at p3; exact p3.elim
  | some x =>
    simp only [e] at p3
    exact hop g3 m3 H3 v l u x G3 (pv g3 m3 H3 x G3 (E2.trans E3) e) p3
/-- a tuple's, a text's cut; a list's is something new -/
def slD : D → Option Int → Option Int → Option D
  | .tup ds, lo, hi => some (.tup (cutD ds lo hi))
  | _, _, _ => none
def slN : D → Option Int → Option Int → Option Ob
  | .lst ds, lo, hi => some (.lst (cutD ds lo hi))
  | _, _, _ => none
theorem cut_whole {α : Type} {xs : List α} {lo hi : Option Int} (h : HT.sIx xs.length 0 lo = 0 ∧ HT.sIx xs.length xs.length hi = xs.length) : (xs.drop (HT.sIx xs.length 0 lo)).take (HT.sIx xs.length xs.length hi - HT.sIx xs.length 0 lo) = xs := by
  rw [h.1, h.2]; simp
theorem sl_rule (hK : X.K = Z.K) : L2.SlR X (fun x lo hi H Q => ∃ g m σ d e, Good Z Fo g m σ H ∧ PV Z g m.S.length H d x ∧ slD d lo hi = some e ∧ ∀ v H' g', Good Z Fo g' m σ H' → Ext Fo g m.S.length g' m.S.length → DV Z g'.G g'.μ m.S.length e v → Q v H') := by
  intro pins s σ H x v vl vu lo hi sl Q I rx hs pl pu ⟨g, m, σ', d, e, G, pd, hk, q⟩
  match d, hk with
  | .tup ds, hk =>
    cases hk
    obtain ⟨a, vs, rfl, ha, hg, dv⟩ := pd.tup G
    refine sl_tupA pins s σ H _ v vl vu lo hi sl Q I rx hs pl pu ⟨a, vs, rfl, hK ▸ ha, fun hw => ?_, fun _ p n => ?_⟩
    · rw [← dv.length] at hw
      have e : cutD ds lo hi = ds := cut_whole hw
      rw [e] at q
      exact q _ _ _ G .rfl' (.tup hg dv)
    · obtain ⟨G2, E2⟩ := G.laid (h := .tup (cutV vs lo hi)) n
      exact q _ _ _ G2 E2 (.tup (show upd g.G p _ p = _ from upd_same) ((dv.cut lo hi).ext E2))
theorem slN_rule : L2.SlR X (fun x lo hi H Q => ∃ g m σ d e, Good Z Fo g m σ H ∧ PV Z g m.S.length H d x ∧ slN d lo hi = some e ∧ ∀ v H', Good Z Fo g m σ H' → RN Z Fo g m.S.length H' e v → Q v H') := by
  intro pins s σ H x v vl vu lo hi sl Q I rx hs pl pu ⟨g, m, σ', d, e, G, pd, hk, q⟩
  match d, hk with
  | .lst ds, hk =>
    cases hk
    obtain ⟨a, vs, rfl, ha, dv⟩ := pd.lst G
    refine sl_list pins s σ H _ v vl vu lo hi sl Q I rx hs pl pu ⟨a, vs, rfl, .inl ha, fun p n => ?_⟩
    obtain ⟨f1, f2, f3⟩ := G.free n
    exact q _ _ (G.fresh n) ⟨p, _, rfl, upd_same, ⟨_, rfl, dv.cut lo hi⟩, f1, f2, f3⟩
def slDM (d : D) (l u : Option Int) : Mo D := .opt (slD d l u)
def slNM (d : D) (l u : Option Int) : Mo Ob := .opt (slN d l u)
variable {ea : Expr} {a : Opd} {lo hi : Option Expr} {pl ph : Prt} {p2 pos : Pos}
theorem de_sl (hK : X.K = Z.K) (ha : PE X ea (tO Z Fo W a)) (hl : PO X lo (tP Z Fo W pl)) (hh : PO X hi (tP Z Fo W ph)) : PE X (.Subscript ea (.Slice lo hi none p2) pos) (tE Z Fo W (slM a pl ph slDM)) :=
  (pe_slice (sl_rule (Fo := Fo) hK) ha hl hh).imp fun σ H Q ⟨g, m, G, h⟩ => rd_sl G h fun g' m' H' x l u d G' px p => by
    cases hk : slD d l u with
    | none => simp only [slDM, hk] at p; exact p.elim
    | some k =>
      simp only [slDM, hk] at p
      exact ⟨g', m', σ, d, k, G', px, hk, p⟩
theorem de_slN (ha : PE X ea (tO Z Fo W a)) (hl : PO X lo (tP Z Fo W pl)) (hh : PO X hi (tP Z Fo W ph)) : PE X (.Subscript ea (.Slice lo hi none p2) pos) (tN Z Fo W (slM a pl ph slNM)) :=
  (pe_slice (slN_rule (Z := Z) (Fo := Fo)) ha hl hh).imp fun σ H Q ⟨g, m, G, h⟩ => rd_sl G h fun g' m' H' x l u d G' px p => by
    cases hk : slN d l u with
    | none => simp only [slNM, hk] at p; exact p.elim
    | some k =>
      simp only [slNM, hk] at p
      exact ⟨g', m', σ, d, k, G', px, hk, fun v H2 G2 r => p v H2 g' G2 .rfl' r⟩
/-- xs[::-1] of a list -/
def revM : D → Mo Ob
  | .lst ds => .ret (.lst ds.reverse)
  | _ => .no
theorem de_rev {k : Nat} {p1 p3 : Pos} (hK : X.K = Z.K) (ha : PE X ea (tO Z Fo W a)) : PE X (.Subscript ea (.Slice none none (some (.UnaryOp .USub (.Constant (.int 1) k p1) p2)) p3) pos) (tN Z Fo W (opd1 a revM)) :=
  (pe_revL ha).imp fun σ H Q ⟨g, m, G, h⟩ => rd_opd1 G h fun g' m' H' x d G' _ px p => by
    cases d with
    | lst ds =>
      obtain ⟨b, vs, rfl, ha, dv⟩ := px.lst G'
      refine ⟨b, vs, rfl, .inl ha, fun q n => ?_⟩
      obtain ⟨f1, f2, f3⟩ := G'.free n
      exact p _ _ _ (G'.fresh n) .rfl' ⟨q, _, rfl, upd_same, ⟨_, rfl, dv.reverse⟩, f1, f2, f3⟩
    | _ => exact p.elim
end
end LB

namespace LB
open PySem L2

/-! ### places: a slot's own object, an object of the store -/
inductive Pl where
  | sl (i : Nat) | st (n : Nat)
def Pl.get (m : Mst) : Pl → Option Ob
  | .sl i => match m.ρ[i]? with
    | some (.own o) => some o
    | _ => none
  | .st n => match m.S[n]? with
    | some (.ob o) => some o
    | _ => none
def Pl.set (m : Mst) (o : Ob) : Pl → Mst
  | .sl i => { m with ρ := m.ρ.set i (.own o) }
  | .st n => { m with S := m.S.set n (.ob o) }
/-- where an operand's object stands -/
def Opd.pl (a : Opd) (d : D) (m : Mst) : Option Pl := match a.1 with
  | some i => match m.ρ[i]? with
    | some (.own _) => some (.sl i)
    | some (.va (.ref n)) => some (.st n)
    | _ => none
  | none => match d with
    | .ref n => some (.st n)
    | _ => none
/-- the value that a place's object is -/
def PlV (σ : L2.St) (μ : Nat → Addr) (v : V) : Pl → Prop
  | .sl i => σ[i]? = some (some v)
  | .st n => v = .ref (μ n)
section
variable {Z : Stc} {Fo : Hp} {W : WX} {g g' : Gh} {m m' : Mst} {σ : L2.St} {H : Hp} {N N' : Nat} {G0 : Hp} {μ0 : Nat → Addr} {X : Cx}
theorem Pl.set_len (p : Pl) (o : Ob) : (p.set m o).S.length = m.S.length := by
  cases p with
  | sl i => rfl
  | st n => show (m.S.set n _).length = _; rw [List.length_set]
/-- the object at an owned address is changed -/
theorem Good.chg (G : Good Z Fo g m σ H) {a : Addr} {w : Ow} {h' : HO} (ha : g.ow a = some w) :
    (∀ b o, g.G b = some o → upd H a h' b = some o) ∧ (∀ b o, Fo b = some o → upd H a h' b = some o) ∧
    (∀ i s, m.ρ[i]? = some s → w ≠ .sl i → SlR Z g m.S.length σ (upd H a h') i s) ∧
    (∀ n o, m.S[n]? = some o → w ≠ .lo n → w ≠ .di n → SoR Z g m.S.length (upd H a h') n o) ∧
    (∀ b w', g.ow b = some w' → g.G b = none ∧ Fo b = none ∧ ∃ o, upd H a h' b = some o) := by
  obtain ⟨a1, a2, u, a3⟩ := G.s.ow a w ha
  have ne : ∀ {b : Addr} {x : HO}, b ≠ a → H b = some x → upd H a h' b = some x := fun {b x} z e => by rw [upd_ne z]; exact e
  refine ⟨fun b o e => ne (fun z => by rw [z, a1] at e; cases e) (G.s.gh b o e), fun b o e => ne (fun z => by rw [z, a2] at e; cases e) (G.s.fo b o e), fun i s e hw => ?_, fun n o e h1 h2 => ?_, fun b w' e => ?_⟩
  · have x := G.sl i s e
    cases s with
    | un => trivial
    | va d => exact x
    | own o =>
      obtain ⟨b, h, x1, x2, x3, x4⟩ := x
      exact ⟨b, h, x1, x2, ne (fun z => by rw [z, ha] at x2; cases x2; exact hw rfl) x3, x4⟩
  · have x := G.s.st n o e
    cases o with
    | ob o =>
      obtain ⟨h, x1, x2, x3⟩ := x
      exact ⟨h, x1, ne (fun z => by rw [z, ha] at x1; cases x1; exact h1 rfl) x2, x3⟩
    | ins c fs =>
      obtain ⟨C, dx, fs', x1, x2, x3, x4, x5, x6⟩ := x
      exact ⟨C, dx, fs', x1, x2, ne (fun z => by rw [z, ha] at x1; cases x1; exact h1 rfl) x3, ne (fun z => by rw [z, ha] at x5; cases x5; exact h2 rfl) x4, x5, x6⟩
  · obtain ⟨y1, y2, o, y3⟩ := G.s.ow b w' e
    by_cases z : b = a
    · exact ⟨y1, y2, h', by rw [z]; exact upd_same⟩
    · exact ⟨y1, y2, o, ne z y3⟩
theorem Good.pl (G : Good Z Fo g m σ H) {p : Pl} {o : Ob} (e : p.get m = some o) {v : V} (hv : PlV σ g.μ v p) :
    ∃ a h, v = .ref a ∧ H a = some h ∧ ObR Z g m.S.length o h ∧ ∀ o' h', ObR Z g m.S.length o' h' → Good Z Fo g (p.set m o') σ (upd H a h') := by
  cases p with
  | sl i =>
    unfold Pl.get at e
    cases e1 : m.ρ[i]? with
    | none => simp only [e1] at e; cases e
    | some s =>
      cases s with
      | own o1 =>
        simp only [e1] at e
        cases e
        obtain ⟨a, h, x1, x2, x3, x4⟩ := G.sl i _ e1
        have hv' : σ[i]? = some (some v) := hv
        rw [hv'] at x1
        cases x1
        refine ⟨a, h, rfl, x3, x4, fun o' h' r => ?_⟩
        obtain ⟨c1, c2, c3, c4, c5⟩ := G.chg (h' := h') x2
        refine ⟨⟨c1, c2, fun n q e => c4 n q e (fun z => by cases z) (fun z => by cases z), c5⟩, by show (m.ρ.set i _).length = _; rw [List.length_set]; exact G.len, fun j s' e' => ?_⟩
        have e' : (m.ρ.set i (.own o'))[j]? = some s' := e'
        by_cases z : i = j
        · subst z
          rw [List.getElem?_set_self (List.getElem?_eq_some_iff.mp e1).1] at e'
          cases e'
          exact ⟨a, h', hv', x2, upd_same, r⟩
        · rw [List.getElem?_set_ne z] at e'
          exact c3 j s' e' (fun q => by cases q; exact z rfl)
      | _ => simp only [e1] at e; cases e
  | st n =>
    unfold Pl.get at e
    cases e1 : m.S[n]? with
    | none => simp only [e1] at e; cases e
    | some s =>
      cases s with
      | ins c fs => simp only [e1] at e; cases e
      | ob o1 =>
        simp only [e1] at e
        cases e
        obtain ⟨h, x1, x2, x3⟩ := G.s.st n _ e1
        have hv' : v = .ref (g.μ n) := hv
        subst hv'
        refine ⟨g.μ n, h, rfl, x2, x3, fun o' h' r => ?_⟩
        obtain ⟨c1, c2, c3, c4, c5⟩ := G.chg (h' := h') x1
        have ln : (m.S.set n (.ob o')).length = m.S.length := List.length_set
        refine ⟨⟨c1, c2, fun k q e' => ?_, c5⟩, G.len, fun j s' e' => ?_⟩
        · have e' : (m.S.set n (.ob o'))[k]? = some q := e'
          show SoR Z g (m.S.set n (.ob o')).length _ k q
          rw [ln]
          by_cases z : n = k
          · subst z
            rw [List.getElem?_set_self (List.getElem?_eq_some_iff.mp e1).1] at e'
            cases e'
            exact ⟨h', x1, upd_same, r⟩
          · rw [List.getElem?_set_ne z] at e'
            exact c4 k q e' (fun y => by cases y; exact z rfl) (fun y => by cases y)
        · show SlR Z g (m.S.set n (.ob o')).length σ _ j s'
          rw [ln]
          exact c3 j s' e' (fun y => by cases y)

/-! ### methods that change their object -/
inductive Om where
  | append | extend | pop | popAt | reverse | clear | update
def putKD (kvs : List (D × D)) (k v : D) : List (D × D) :=
  if (kvs.any fun p => decide (keyD p.1 = keyD k)) = true then kvs.map (fun p => if keyD p.1 = keyD k then (p.1, v) else p) else kvs ++ [(k, v)]
def putTD (kvs : List (D × D)) (k v : D) : List (D × D) :=
  if (kvs.any fun p => decide (keyT p.1 = keyT k)) = true then kvs.map (fun p => if keyT p.1 = keyT k then (p.1, v) else p) else kvs ++ [(k, v)]
def mergeD (kvs more : List (D × D)) : List (D × D) := more.foldl (fun acc kv => putKD acc kv.1 kv.2) kvs
/-- the object behind, what is told -/
def omD : Om → Ob → List D → Option (Ob × D)
  | .append, .lst ds, [x] => if ds.length < sizeLine then some (.lst (ds ++ [x]), .non) else none
  | .extend, .lst ds, [x] => (match x with
    | .lst es => some es
    | .tup es => some es
    | _ => none).bind fun es => if ds.length + es.length ≤ sizeLine then some (.lst (ds ++ es), .non) else none
  | .pop, .lst ds, [] => ds[ds.length - 1]?.map fun x => (.lst ds.dropLast, x)
  | .reverse, .lst ds, [] => some (.lst ds.reverse, .non)
  | .clear, .lst _, [] => some (.lst [], .non)
  | .update, .dct false kvs, [.dct false more] => if kvs.length + more.length ≤ sizeLine then some (.dct false (mergeD kvs more), .non) else none
  | _, _, _ => none
def Om.ty : Om → String
  | .update => "dict"
  | _ => "list"
def Om.id : Om → String
  | .append => "list.append" | .extend => "list.extend" | .pop => "list.pop" | .popAt => "list.pop" | .reverse => "list.reverse" | .clear => "list.clear" | .update => "dict.update"
def Om.nm : Om → Str
  | .append => "append" | .extend => "extend" | .pop => "pop" | .popAt => "pop" | .reverse => "reverse" | .clear => "clear" | .update => "update"
theorem DVk.snoc : ∀ {kvs : List (D × D)} {ks : List (Key × V)} {k : D} {k' : Key} {d : D} {w : V}, DVk Z G0 μ0 N kvs ks → keyD k = some k' → DV Z G0 μ0 N d w → DVk Z G0 μ0 N (kvs ++ [(k, d)]) (ks ++ [(k', w)])
  | _, _, _, _, _, _, .nil, e, r => .cons e r .nil
  | _, _, _, _, _, _, .cons a b c, e, r => .cons a b (DVk.snoc c e r)
theorem DVk.any : ∀ {kvs : List (D × D)} {ks : List (Key × V)} {k : D} {k' : Key}, DVk Z G0 μ0 N kvs ks → keyD k = some k' → (kvs.any fun p => decide (keyD p.1 = keyD k)) = ks.any fun kv => decide (kv.1 = k')
  | _, _, _, _, .nil, e => rfl
  | (x, d) :: r, (y, v) :: s, k, k', .cons a b c, e => by
    rw [List.any_cons, List.any_cons, DVk.any c e, a, e]
    congr 1
    by_cases h : y = k' <;> simp [h]
theorem DVk.rep : ∀ {kvs : List (D × D)} {ks : List (Key × V)} {k : D} {k' : Key} {d : D} {w : V}, DVk Z G0 μ0 N kvs ks → keyD k = some k' → DV Z G0 μ0 N d w → DVk Z G0 μ0 N (kvs.map fun p => if keyD p.1 = keyD k then (p.1, d) else p) (ks.map fun kv => if kv.1 = k' then (kv.1, w) else kv)
  | _, _, _, _, _, _, .nil, e, r => .nil
  | (x, d') :: r', (y, v) :: s, k, k', d, w, .cons a b c, e, r => by
    rw [List.map_cons, List.map_cons]
    have ih := DVk.rep c e r
    by_cases h : y = k'
    · rw [if_pos (by rw [a, e, h]), if_pos h]
      exact .cons a r ih
    · rw [if_neg (by rw [a, e]; simpa using h), if_neg h]
      exact .cons a b ih
theorem DVk.put {kvs : List (D × D)} {ks : List (Key × V)} {k : D} {k' : Key} {d : D} {w : V} (h : DVk Z G0 μ0 N kvs ks) (e : keyD k = some k') (r : DV Z G0 μ0 N d w) : DVk Z G0 μ0 N (putKD kvs k d) (putK ks k' w) := by
  unfold putKD putK
  rw [h.any e]
  split
  · exact h.rep e r
  · exact h.snoc e r
theorem DVt.snoc : ∀ {kvs : List (D × D)} {ks : List (List Key × V)} {k : D} {k' : List Key} {d : D} {w : V}, DVt Z G0 μ0 N kvs ks → LB.keyT k = some k' → DV Z G0 μ0 N d w → DVt Z G0 μ0 N (kvs ++ [(k, d)]) (ks ++ [(k', w)])
  | _, _, _, _, _, _, .nil, e, r => .cons e r .nil
  | _, _, _, _, _, _, .cons a b c, e, r => .cons a b (DVt.snoc c e r)
theorem DVt.any : ∀ {kvs : List (D × D)} {ks : List (List Key × V)} {k : D} {k' : List Key}, DVt Z G0 μ0 N kvs ks → LB.keyT k = some k' → (kvs.any fun p => decide (LB.keyT p.1 = LB.keyT k)) = ks.any fun kv => decide (kv.1 = k')
  | _, _, _, _, .nil, e => rfl
  | (x, d) :: r, (y, v) :: s, k, k', .cons a b c, e => by
    rw [List.any_cons, List.any_cons, DVt.any c e, a, e]
    congr 1
    by_cases h : y = k' <;> simp [h]
theorem DVt.rep : ∀ {kvs : List (D × D)} {ks : List (List Key × V)} {k : D} {k' : List Key} {d : D} {w : V}, DVt Z G0 μ0 N kvs ks → LB.keyT k = some k' → DV Z G0 μ0 N d w → DVt Z G0 μ0 N (kvs.map fun p => if LB.keyT p.1 = LB.keyT k then (p.1, d) else p) (ks.map fun kv => if kv.1 = k' then (kv.1, w) else kv)
  | _, _, _, _, _, _, .nil, e, r => .nil
  | (x, d') :: r', (y, v) :: s, k, k', d, w, .cons a b c, e, r => by
    rw [List.map_cons, List.map_cons]
    have ih := DVt.rep c e r
    by_cases h : y = k'
    · rw [if_pos (by rw [a, e, h]), if_pos h]
      exact .cons a r ih
    · rw [if_neg (by rw [a, e]; simpa using h), if_neg h]
      exact .cons a b ih
theorem DVt.put {kvs : List (D × D)} {ks : List (List Key × V)} {k : D} {k' : List Key} {d : D} {w : V} (h : DVt Z G0 μ0 N kvs ks) (e : LB.keyT k = some k') (r : DV Z G0 μ0 N d w) : DVt Z G0 μ0 N (putTD kvs k d) (putK ks k' w) := by
  unfold putTD putK
  rw [h.any e]
  split
  · exact h.rep e r
  · exact h.snoc e r
theorem DVk.merge : ∀ {more : List (D × D)} {ms : List (Key × V)} {kvs : List (D × D)} {ks : List (Key × V)}, DVk Z G0 μ0 N more ms → DVk Z G0 μ0 N kvs ks → DVk Z G0 μ0 N (mergeD kvs more) (mergeK ks ms)
  | _, _, _, _, .nil, h => h
  | (x, d') :: r', (y, v) :: s, kvs, ks, .cons a b c, h => by
    show DVk Z G0 μ0 N (mergeD (putKD kvs x d') r') (mergeK (putK ks y v) s)
    exact DVk.merge c (h.put a b)
/-- d.update(e), both of ours -/
theorem d_update {pins : List (Addr × Obj)} {s : Shared} {A : Around} {E : Value → Shared → Prop} {a b : Addr} {ks ms : List (Key × V)} {Q : Value → Shared → Prop} (I : L2.Inv X pins σ H s) (e : H a = some (.dK ks)) (e2 : H b = some (.dK ms)) (ne : a ≠ b) (hz : ks.length + ms.length ≤ sizeLine)
    (h : ∀ s', L2.Inv X pins σ (upd H a (.dK (mergeK ks ms))) s' → Q .none s') : wpAny (model X.prog X.w) A (call (.builtin "dict.update") [.ref a, .ref b]) Q E s := by
  obtain ⟨z, hd, vs, rel, dd⟩ := dk_of I.hok e
  obtain ⟨z2, hd2, vs2, rel2, dd2⟩ := dk_of I.hok e2
  have l1 := rel.length
  have l2 := rel2.length
  refine call_meetsIn PySem.F.slot_dict_update dd.typeIs PySem.F.entry_dict_update (PySem.F.args_dict_update_2 _ _) (meets_dict_update (mixKind X.prog X.w) a b ne hd2) ⟨vs, vs2, dd, dd2, by omega, fun h' d1 d2 sb => ?_⟩
  refine h _ ?_
  have rr := rel2.merge rel
  obtain ⟨q, _, _, hq, _⟩ := id d1
  refine d_write (t' := s.toks) I (by rw [e]; exact trivial) sb ⟨q, hq⟩ (dk_new ?_ hd rr d1)
  exact Nat.le_trans (length_mergeK ms ks) hz
end
section
open PySem.AutoSeq1
set_option maxHeartbeats 1000000 in
theorem ext_tup (l : Addr) (items : Array Value) (n : Nat) (b : Addr) (items2 : Array Value) (n2 : Nat) (dd : Option Addr) (sl : Array (Option Value)) (h0 : ¬(!items.isEmpty && Builtin.List.listTooLong (items.size + items2.size)) = true) (h1 : items.size ≤ sizeLine)
    (h2 : items.size + items2.size ≤ sizeLine + 1) :
    Meets (Builtin.«list.extend» ⟨[.ref l, .ref b], []⟩) (fun _ R s => s.heap.get? l = some { cls := .type "list", data := .seq items n } ∧ s.heap.get? b = some { cls := .type "tuple", dict := dd, data := .seq items2 n2, slots := sl } ∧
      R (.ok (.ret Value.none)) { s with heap := s.heap.update l (Obj.mapSeq fun x => x ++ items2), toks := s.toks }) :=
  .of_wp fun prog w A R s ⟨hl, hb, h⟩ => by
    obtain ⟨hp, g, d, tk, os⟩ := s
    have f1 := idx_int
    have f2 := sub_tuple_tuple
    have f3 := sub_list_list
    have f4 := sub_tuple_list
    have f5 := sub_list_tuple
    have hz : (items ++ items2).size ≤ sizeLine + 1 := by rw [Array.size_append]; exact h2
    wp_walk using (wpAny_updateSeq hl rfl (hz := h1) (_hz' := hz)), wpAny_loadPart' hl, wpAny_loadPart' hb
    exact ⟨_, rfl, h⟩
end
section
variable {Z : Stc} {Fo : Hp} {W : WX} {g g' : Gh} {m m' : Mst} {σ : L2.St} {H : Hp} {N N' : Nat} {G0 : Hp} {μ0 : Nat → Addr} {X : Cx}
/-! ### the rules of these methods -/
/-- what is handed in: values, or a list of the store whose items are gone through -/
def ArgR (Z : Stc) (g : Gh) (N : Nat) (om : Om) (H : Hp) (ds : List D) (xs : List V) : Prop := DVs Z g.G g.μ N ds xs ∨ (om = .extend ∧ ∃ b es ws, ds = [.lst es] ∧ xs = [V.ref b] ∧ H b = some (.lst ws) ∧ DVs Z g.G g.μ N es ws)
def rOm (Z : Stc) (om : Om) : V → List V → Hp → VK → Prop := fun x xs H Q => ∃ a h g N o ds o' e, x = .ref a ∧ H a = some h ∧ (∀ b u, g.G b = some u → H b = some u ∧ b ≠ a) ∧ ObR Z g N o h ∧ ArgR Z g N om H ds xs ∧ omD om o ds = some (o', e) ∧
  ∀ h' v, ObR Z g N o' h' → DV Z g.G g.μ N e v → Q v (upd H a h')
theorem om_rule (hK : X.K = Z.K) (om : Om) : MtR X om.id (rOm Z om) := by
  intro pins s σ H x xs v us Q I rx rxs ⟨a, h, g, N, o, ds, o', e, ex, ha, gh, ro, rd, hd, q⟩
  subst ex
  rcases rd with rd | ⟨eo, b, es, ws, ed, ey, hb, dvb⟩
  case inr =>
    subst eo ed ey
    cases o with
    | dct t kvs => simp [omD] at hd
    | lst ds =>
      obtain ⟨vs, rfl, dv⟩ := ro
      by_cases c : ds.length + es.length ≤ sizeLine
      · simp only [omD, Option.bind_some, if_pos c, Option.some.injEq, Prod.mk.injEq] at hd
        obtain ⟨rfl, rfl⟩ := hd
        have q' := q _ _ ⟨_, rfl, dv.append dvb⟩ .non
        obtain ⟨u, rfl, ru⟩ := rxs.one
        cases rx
        cases ru
        obtain ⟨z, its, n, r, e1⟩ := I.hok a _ ha
        obtain ⟨z2, its2, n2, r2, e2⟩ := I.lstR (.inl hb : Rd H b (.lst ws))
        have l1 := r.length
        have l2 := r2.length
        have l3 := dv.length
        have l4 := dvb.length
        have hsz : its.toArray.size + its2.toArray.size ≤ sizeLine := by rw [List.size_toArray, List.size_toArray]; omega
        have hl : ¬ (!its.toArray.isEmpty && Builtin.List.listTooLong (its.toArray.size + its2.toArray.size)) = true := by rw [notLongL hsz, Bool.and_false]; simp
        refine call_meets F.slot_list_extend ⟨_, e1, rfl⟩ F.entry_list_extend (F.args_list_extend_2 _ _) (AutoSeq1.list_extend_list_list_0 a its.toArray n b its2.toArray n2 hl (by rw [List.size_toArray]; omega) (by omega)) ⟨e1, e2, ?_⟩
        exact ⟨.non, _, I.lset (its' := its ++ its2) ha e1 (by simp) (r.append r2) (by rw [List.length_append]; omega), rfl, q'⟩
      · simp only [omD, Option.bind_some, if_neg c] at hd
        cases hd
  match om, o, ds, hd with
  | .append, .lst ds, [y], hd =>
    obtain ⟨vs, rfl, dv⟩ := ro
    cases rd with
    | cons r1 r2 =>
      cases r2
      by_cases c : ds.length < sizeLine
      · simp only [omD, if_pos c, Option.some.injEq, Prod.mk.injEq] at hd
        obtain ⟨rfl, rfl⟩ := hd
        exact mt_append pins s σ H _ _ v us Q I rx rxs ⟨a, vs, _, rfl, rfl, ha, by rw [← dv.length]; exact c, q _ _ ⟨_, rfl, dv.append (.cons r1 .nil)⟩ .non⟩
      · simp only [omD, if_neg c] at hd
        cases hd
  | .extend, .lst ds, [y], hd =>
    obtain ⟨vs, rfl, dv⟩ := ro
    cases rd with
    | cons r1 r2 =>
      cases r2
      match y, hd with
      | .lst es, hd =>
        by_cases c : ds.length + es.length ≤ sizeLine
        · simp only [omD, Option.bind_some, if_pos c, Option.some.injEq, Prod.mk.injEq] at hd
          obtain ⟨rfl, rfl⟩ := hd
          cases r1 with
          | lst hb dvb =>
            rename_i b ws
            have q' := q _ _ ⟨_, rfl, dv.append dvb⟩ .non
            obtain ⟨u, rfl, ru⟩ := rxs.one
            cases rx
            cases ru
            obtain ⟨z, its, n, r, e1⟩ := I.hok a _ ha
            have rdb : Rd H b (.lst ws) := by
              rcases hb with hb | ⟨o, hb⟩
              · exact .inl (gh _ _ hb).1
              · exact .inr ⟨o, (gh _ _ hb).1⟩
            obtain ⟨z2, its2, n2, r2, e2⟩ := I.lstR rdb
            have l1 := r.length
            have l2 := r2.length
            have l3 := dv.length
            have l4 := dvb.length
            have hsz : its.toArray.size + its2.toArray.size ≤ sizeLine := by rw [List.size_toArray, List.size_toArray]; omega
            have hl : ¬ (!its.toArray.isEmpty && Builtin.List.listTooLong (its.toArray.size + its2.toArray.size)) = true := by rw [notLongL hsz, Bool.and_false]; simp
            refine call_meets F.slot_list_extend ⟨_, e1, rfl⟩ F.entry_list_extend (F.args_list_extend_2 _ _) (AutoSeq1.list_extend_list_list_0 a its.toArray n b its2.toArray n2 hl (by rw [List.size_toArray]; omega) (by omega)) ⟨e1, e2, ?_⟩
            exact ⟨.non, _, I.lset (its' := its ++ its2) ha e1 (by simp) (r.append r2) (by rw [List.length_append]; omega), rfl, q'⟩
        · simp only [omD, Option.bind_some, if_neg c] at hd
          cases hd
      | .tup es, hd =>
        by_cases c : ds.length + es.length ≤ sizeLine
        · simp only [omD, Option.bind_some, if_pos c, Option.some.injEq, Prod.mk.injEq] at hd
          obtain ⟨rfl, rfl⟩ := hd
          cases r1 with
          | tup hb dvb =>
            rename_i b ws
            have q' := q _ _ ⟨_, rfl, dv.append dvb⟩ .non
            obtain ⟨u, rfl, ru⟩ := rxs.one
            cases rx
            cases ru
            obtain ⟨z, its, n, r, e1⟩ := I.hok a _ ha
            obtain ⟨z2, its2, r2, ⟨⟨cls, dd, data, sl⟩, e2, hc, n2, hdt⟩⟩ := I.hok b _ (gh _ _ hb).1
            simp only at hc hdt
            subst hc hdt
            have l1 := r.length
            have l2 := r2.length
            have l3 := dv.length
            have l4 := dvb.length
            have hsz : its.toArray.size + its2.toArray.size ≤ sizeLine := by rw [List.size_toArray, List.size_toArray]; omega
            have hl : ¬ (!its.toArray.isEmpty && Builtin.List.listTooLong (its.toArray.size + its2.toArray.size)) = true := by rw [notLongL hsz, Bool.and_false]; simp
            refine call_meets F.slot_list_extend ⟨_, e1, rfl⟩ F.entry_list_extend (F.args_list_extend_2 _ _) (ext_tup a its.toArray n b its2.toArray n2 dd sl hl (by rw [List.size_toArray]; omega) (by omega)) ⟨e1, e2, ?_⟩
            exact ⟨.non, _, I.lset (its' := its ++ its2) ha e1 (by simp) (r.append r2) (by rw [List.length_append]; omega), rfl, q'⟩
        · simp only [omD, Option.bind_some, if_neg c] at hd
          cases hd
  | .pop, .lst ds, [], hd =>
    obtain ⟨vs, rfl, dv⟩ := ro
    cases rd
    cases h0 : ds[ds.length - 1]? with
    | none => simp [omD, h0] at hd
    | some y =>
      simp only [omD, h0, Option.map_some, Option.some.injEq, Prod.mk.injEq] at hd
      obtain ⟨rfl, rfl⟩ := hd
      obtain ⟨w, ew, dw⟩ := dv.get h0
      rw [dv.length] at ew
      have dl : DVs Z g.G g.μ N ds.dropLast vs.dropLast := by rw [List.dropLast_eq_take, List.dropLast_eq_take, dv.length]; exact dv.take _
      exact mt_pop pins s σ H _ _ v us Q I rx rxs ⟨a, vs, w, rfl, rfl, ha, ew, q _ _ ⟨_, rfl, dl⟩ dw⟩
  | .reverse, .lst ds, [], hd =>
    obtain ⟨vs, rfl, dv⟩ := ro
    cases rd
    cases hd
    exact mt_reverse pins s σ H _ _ v us Q I rx rxs ⟨a, vs, rfl, rfl, ha, q _ _ ⟨_, rfl, dv.reverse⟩ .non⟩
  | .clear, .lst ds, [], hd =>
    obtain ⟨vs, rfl, dv⟩ := ro
    cases rd
    cases hd
    exact mt_clear pins s σ H _ _ v us Q I rx rxs ⟨a, vs, rfl, rfl, ha, q _ _ ⟨_, rfl, .nil⟩ .non⟩
  | .update, .dct false kvs, [.dct false more], hd =>
    obtain ⟨ks, rfl, dv⟩ := ro
    cases rd with
    | cons r1 r2 =>
      cases r2
      by_cases c : kvs.length + more.length ≤ sizeLine
      · simp only [omD, if_pos c, Option.some.injEq, Prod.mk.injEq] at hd
        obtain ⟨rfl, rfl⟩ := hd
        cases r1 with
        | dk hb dvb =>
          obtain ⟨u, rfl, ru⟩ := rxs.one
          cases rx
          cases ru
          obtain ⟨hb1, hb2⟩ := gh _ _ hb
          exact d_update I ha hb1 (fun z => hb2 z.symm) (by rw [← dv.length, ← dvb.length]; exact c) fun s' I' => ⟨.non, _, I', rfl, q _ _ ⟨_, rfl, dvb.merge dv⟩ .non⟩
      · simp only [omD, if_neg c] at hd
        cases hd
def Ob.ty : Ob → String
  | .lst _ => "list"
  | .dct _ _ => "dict"
/-- a list of the store that another one is made longer by: its items -/
def thaw (m : Mst) : Om → List D → List D
  | .extend, [.ref n] => match m.S[n]? with
    | some (.ob (.lst es)) => [.lst es]
    | _ => [.ref n]
  | _, ds => ds
/-- o.m(..), a method that changes its object -/
def omM (om : Om) (a : Opd) (f : Mo (List D)) : Mo D := fun m => (a.pre m).bind fun x m1 => match (a.pl x m1).bind (Pl.get m1) with
  | none => .no
  | some o1 => if o1.ty = om.ty then (f m1).bind fun ds m2 => match a.pl x m2 with
    | none => .no
    | some p => match p.get m2 with
      | none => .no
      | some o => match omD om o (thaw m2 om ds) with
        | none => .no
        | some (o', e) => .ok e (p.set m2 o')
    else .no
theorem opd_pl_pass {γ δ : Type} {R' : Gh → Nat → Hp → γ → δ → Prop} {P : δ → Hp → Prop} {o : Opd} {f : D → Mo γ} {R : V → Hp → Prop} (G : Good Z Fo g m σ H) (h : Pg Z Fo W R' g m.S.length σ P ((o.pre m).bind f))
    (k : ∀ v H' d g' m', Good Z Fo g' m' σ H' → Ext Fo g m.S.length g' m'.S.length → Pg Z Fo W R' g' m'.S.length σ P (f d m') →
      (∀ g2 m2 H2 p, Good Z Fo g2 m2 σ H2 → Ext Fo g' m'.S.length g2 m2.S.length → o.pl d m2 = some p → PlV σ g2.μ v p) → R v H') : tO Z Fo W o σ H R := by
  obtain ⟨oi, fo⟩ := o
  cases oi with
  | none =>
    refine ⟨g, m, G, (Pg.bind (R := RD Z) h).imp fun v H' ⟨d, g', m', G', E, r, _, p⟩ => k v H' d g' m' G' E p fun g2 m2 H2 pp G2 E2 q => ?_⟩
    cases d with
    | ref n =>
      cases q
      cases r with
      | ref hn => show V.ref (g'.μ n) = V.ref (g2.μ n); rw [E2.mor.m n hn]
    | _ => cases q
  | some i =>
    have h' : Pg Z Fo W R' g m.S.length σ P ((match pkV i m with | some _ => Res.ok D.non m | none => Res.no).bind f) := h
    cases e : pkV i m with
    | none => rw [e] at h'; exact h'.elim
    | some d0 =>
      rw [e] at h'
      have hv : ∃ v, σ[i]? = some (some v) := by
        unfold pkV at e
        cases e1 : m.ρ[i]? with
        | none => rw [e1] at e; cases e
        | some s =>
          rw [e1] at e
          have x := G.sl i s e1
          cases s with
          | un => cases e
          | va d' => obtain ⟨v', q1, q2⟩ := x; exact ⟨v', q1⟩
          | own o => obtain ⟨a, h, q1, q2, q3, q4⟩ := x; exact ⟨_, q1⟩
      obtain ⟨v, ev⟩ := hv
      refine ⟨v, ev, k v H .non g m G .rfl' h' fun g2 m2 H2 pp G2 E2 q => ?_⟩
      unfold Opd.pl at q
      dsimp only at q
      cases e3 : m2.ρ[i]? with
      | none => rw [e3] at q; cases q
      | some s =>
        rw [e3] at q
        have x := G2.sl i s e3
        cases s with
        | un => cases q
        | own o => cases q; exact ev
        | va d =>
          cases d with
          | ref n =>
            cases q
            obtain ⟨v', q1, q2⟩ := x
            rw [ev] at q1
            cases q1
            cases q2
            rfl
          | _ => cases q
theorem tO_imp {o : Opd} {R R' : V → Hp → Prop} (h : tO Z Fo W o σ H R) (q : ∀ v H, R v H → R' v H) : tO Z Fo W o σ H R' := by
  obtain ⟨oi, fo⟩ := o
  cases oi with
  | none => obtain ⟨g, m, G, h⟩ := h; exact ⟨g, m, G, h.imp q⟩
  | some i => obtain ⟨v, e, h⟩ := h; exact ⟨v, e, q _ _ h⟩
theorem om_facts (om : Om) : ∃ (pa : PlainAttrs om.ty) (sl : Slot om.ty om.nm om.id), typeOf (.builtin om.id) = pure (.type "method_descriptor") := by
  cases om with
  | append => exact ⟨PySem.F.plainAttrs_list, PySem.F.slot_list_append, PySem.F.type_list_append⟩
  | extend => exact ⟨PySem.F.plainAttrs_list, PySem.F.slot_list_extend, PySem.F.type_list_extend⟩
  | pop => exact ⟨PySem.F.plainAttrs_list, PySem.F.slot_list_pop, PySem.F.type_list_pop⟩
  | popAt => exact ⟨PySem.F.plainAttrs_list, PySem.F.slot_list_pop, PySem.F.type_list_pop⟩
  | reverse => exact ⟨PySem.F.plainAttrs_list, PySem.F.slot_list_reverse, PySem.F.type_list_reverse⟩
  | clear => exact ⟨PySem.F.plainAttrs_list, PySem.F.slot_list_clear, PySem.F.type_list_clear⟩
  | update => exact ⟨PySem.F.plainAttrs_dict, PySem.F.slot_dict_update, PySem.F.type_dict_update⟩
theorem ObR.tyV {K : PySem.W.Frag} {o : Ob} {h : HO} {a : Addr} (r : ObR Z g N o h) (e : H a = some h) : tyV K o.ty (.ref a) H := by
  cases o with
  | lst ds => obtain ⟨vs, rfl, _⟩ := r; exact .inl ⟨rfl, vs, .inl (.inl e)⟩
  | dct t kvs =>
    cases t with
    | false => obtain ⟨vs, rfl, _⟩ := r; exact .inr (.inr (.inl ⟨rfl, .inl ⟨vs, e⟩⟩))
    | true => obtain ⟨vs, rfl, _⟩ := r; exact .inr (.inr (.inl ⟨rfl, .inr ⟨vs, e⟩⟩))
theorem thaw_ok {om : Om} {ds : List D} {xs : List V} (G : Good Z Fo g m σ H) (rd : DVs Z g.G g.μ m.S.length ds xs) : ArgR Z g m.S.length om H (thaw m om ds) xs := by
  unfold thaw
  split
  · rename_i n
    cases rd with
    | cons r1 r2 =>
      cases r2
      split
      · rename_i es e
        obtain ⟨h, x1, x2, x3⟩ := G.s.st n _ e
        obtain ⟨ws, rfl, dv⟩ := x3
        cases r1 with
        | ref hn => exact .inr ⟨rfl, _, es, ws, rfl, rfl, x2, dv⟩
      · exact .inl (.cons r1 .nil)
  · exact .inl rd
/-- the reading of such a call -/
theorem rd_om {K : PySem.W.Frag} {om : Om} {a : Opd} {f : Mo (List D)} {Q : V → Hp → Prop} (h : tE Z Fo W (omM om a f) σ H Q) :
    tO Z Fo W a σ H fun x H1 => tyV K om.ty x H1 ∧ tL Z Fo W f σ H1 fun xs H2 => rOm Z om x xs H2 Q := by
  obtain ⟨g, m, G, h⟩ := h
  refine opd_pl_pass G h fun v H' d g' m' G' E p pv => ?_
  cases e1 : a.pl d m' with
  | none => simp only [e1, Option.bind_none] at p; exact p.elim
  | some pl =>
    cases e2 : pl.get m' with
    | none => simp only [e1, Option.bind_some, e2] at p; exact p.elim
    | some o1 =>
      simp only [e1, Option.bind_some, e2] at p
      by_cases c : o1.ty = om.ty
      · rw [if_pos c] at p
        obtain ⟨a1, h1, rfl, x1, x2, _⟩ := G'.pl e2 (v := v) (pv g' m' H' pl G' .rfl' e1)
        refine ⟨c ▸ x2.tyV x1, g', m', G', (Pg.bind (R := RDs Z) p).imp fun xs H2 ⟨ds, g2, m2, G2, E2, rd, _, p2⟩ => ?_⟩
        cases e3 : a.pl d m2 with
        | none => simp only [e3] at p2; exact p2.elim
        | some p3 =>
          cases e4 : p3.get m2 with
          | none => simp only [e3, e4] at p2; exact p2.elim
          | some o =>
            cases e5 : omD om o (thaw m2 om ds) with
            | none => simp only [e3, e4, e5] at p2; exact p2.elim
            | some oe =>
              obtain ⟨o', e⟩ := oe
              simp only [e3, e4, e5] at p2
              obtain ⟨a2, h2, ea2, y1, y2, y3⟩ := G2.pl e4 (v := .ref a1) (pv g2 m2 H2 p3 G2 E2 e3)
              cases ea2
              have ow : ∃ w, g2.ow a1 = some w := by
                cases p3 with
                | sl i =>
                  have q := pv g2 m2 H2 _ G2 E2 e3
                  unfold Pl.get at e4
                  cases e6 : m2.ρ[i]? with
                  | none => simp only [e6] at e4; cases e4
                  | some s =>
                    cases s with
                    | own o9 =>
                      obtain ⟨b, hb, z1, z2, _⟩ := G2.sl i _ e6
                      have q' : σ[i]? = some (some (V.ref a1)) := q
                      rw [q'] at z1
                      cases z1
                      exact ⟨_, z2⟩
                    | _ => simp only [e6] at e4; cases e4
                | st n =>
                  have q := pv g2 m2 H2 _ G2 E2 e3
                  have q' : V.ref a1 = V.ref (g2.μ n) := q
                  cases q'
                  unfold Pl.get at e4
                  cases e6 : m2.S[n]? with
                  | none => simp only [e6] at e4; cases e4
                  | some s =>
                    cases s with
                    | ins _ _ => simp only [e6] at e4; cases e4
                    | ob o9 => obtain ⟨hb, z1, _⟩ := G2.s.st n _ e6; exact ⟨_, z1⟩
              obtain ⟨w, ow⟩ := ow
              obtain ⟨n1, _, _⟩ := G2.s.ow _ _ ow
              refine ⟨a1, h2, g2, m2.S.length, o, thaw m2 om ds, o', e, rfl, y1, fun b u hb => ⟨G2.s.gh b u hb, fun z => by rw [z, n1] at hb; cases hb⟩, y2, thaw_ok G2 rd, e5, fun h' v ro dv => ?_⟩
              exact p2 v _ g2 (y3 o' h' ro) (by rw [Pl.set_len]; exact .rfl') (by rw [Pl.set_len]; exact dv)
      · rw [if_neg c] at p; exact p.elim
theorem de_om {ea e : Expr} {es : List Expr} {a : Opd} {f : Mo (List D)} {apos cpos : Pos} (hK : X.K = Z.K) (om : Om) {nm : Str} (hnm : nm = om.nm) (ha : PE X ea (tO Z Fo W a)) (hf : PA X (e :: es) (tL Z Fo W f)) (hb : attributeBase ea nm X.env (eval ea X.env) = eval ea X.env)
    (hfew : ((backTo cpos (starEach (e :: es) X.env)).all (fun x => !x.1) && (backToKw cpos (keywordEach [] X.env)).all (fun x => x.1.isSome) && decide ((e :: es).length + ([] : List Keyword).length + (if ([] : List Keyword).isEmpty then 0 else 1) < 30)) = true)
    (hl : (apos.endLine == cpos.line) = true) (hs : starEach (e :: es) X.env = (false, eval e X.env) :: starEach es X.env) (hp : (backTo cpos (starEach es X.env)).any (·.1) = false) :
    PE X (.Call (.Attribute ea nm apos) (e :: es) [] cpos) (tE Z Fo W (omM om a f)) := by
  subst hnm
  obtain ⟨pa, sl, ty⟩ := om_facts om
  exact (pe_bm pa sl ty (om_rule hK om) ha hf hb hfew hl hs hp).imp fun σ H Q h => rd_om h
theorem de_om0 {ea : Expr} {a : Opd} {apos cpos : Pos} (hK : X.K = Z.K) (om : Om) {nm : Str} (hnm : nm = om.nm) (ha : PE X ea (tO Z Fo W a)) (hb : attributeBase ea nm X.env (eval ea X.env) = eval ea X.env)
    (hl : (apos.endLine == cpos.line) = true) : PE X (.Call (.Attribute ea nm apos) [] [] cpos) (tE Z Fo W (omM om a (.ret []))) := by
  subst hnm
  obtain ⟨pa, sl, ty⟩ := om_facts om
  refine (pe_bm0 pa sl ty (om_rule hK om) ha hb hl).imp fun σ H Q h => ?_
  obtain h' := rd_om (K := X.K) h
  refine tO_imp h' fun x H1 ⟨t, q⟩ => ⟨t, rd_nil q⟩
end
end LB

namespace LB
open PySem L2

section
variable {Z : Stc} {Fo : Hp} {W : WX} {g g' : Gh} {m m' : Mst} {σ : L2.St} {H : Hp} {N N' : Nat} {G0 : Hp} {μ0 : Nat → Addr} {X : Cx} {ea eb ec : Expr} {a b c : Opd} {p p2 pos apos cpos : Pos}
/-! ### isinstance(x, T), min(i, j), max(i, j), list(x) -/
def clsOf (x : Str) : Option String := (["int", "str", "bool", "tuple", "list", "dict"] : List String).find? fun n => decide (Str.ofString n = x)
theorem clsOf_spec {x : Str} {c : String} (h : clsOf x = some c) : c ∈ clsNames ∧ x = Str.ofString c := ⟨List.mem_of_find?_eq_some h, by have q := List.find?_some h; exact (of_decide_eq_true q).symm⟩
theorem boot_cls : ∀ c ∈ clsNames, bootBuiltins (Str.ofString c) = some (.type c) ∧ Str.ofString c ≠ "__name__" ∧ (Str.ofString c == ("__debug__" : Str)) = false := by decide +kernel
theorem de_isi {x : Str} {c : String} (hK : X.K = Z.K) (hx : clsOf x = some c) (hg : Gl X "isinstance") (hm : X.mg "isinstance" = none) (hg2 : Gl X x) (hm2 : X.mg x = none)
    (he : starEach [ea, .Name x p2] X.env = [(false, eval ea X.env), (false, eval (.Name x p2) X.env)]) (ha : PE X ea (tO Z Fo W a)) :
    PE X (.Call (.Name "isinstance" p) [ea, .Name x p2] [] pos) (tE Z Fo W (opd1 a (bi1M (.isi c)))) := by
  obtain ⟨hc, rfl⟩ := clsOf_spec hx
  obtain ⟨b1, b2, b3⟩ := boot_cls c hc
  refine (pe_callB call_isi hg hm (by decide +kernel) (pa_cons ha (pa_cons (pe_bltn (v := .ty c) hg2 hm2 b1 rfl b2 b3) pa_nil (by rfl)) he) (he := he)).imp fun σ H Q ⟨g, m, G, h⟩ => rd_opd1 G h fun g' m' H' x d G' _ px q => ?_
  cases hk : isiD c d with
  | none => simp only [bi1M, bi1D, hk, Option.map_none] at q; exact q.elim
  | some k =>
    simp only [bi1M, bi1D, hk, Option.map_some] at q
    obtain ⟨t, ty, kk⟩ := isi_kit hk
    exact ⟨x, .ty c, .type t, .type c, k, rfl, .ty c, hK ▸ px.typ G' ty, kit_ty (kk hc), q _ _ _ G' .rfl' (.bl k)⟩
def mn2D (mx : Bool) : D → D → Option D
  | .int i, .int j => some (.int (if mx then (if j > i then j else i) else if j < i then j else i))
  | _, _ => none
def mn2M (mx : Bool) (d e : D) : Mo D := .opt (mn2D mx d e)
theorem de_mn2 (mx : Bool) {nm : Str} (hnm : nm = if mx then ("max" : Str) else "min") (hc : X.calm = true) (hg : Gl X nm) (hm : X.mg nm = none)
    (he : starEach [ea, eb] X.env = [(false, eval ea X.env), (false, eval eb X.env)]) (he2 : starEach [eb] X.env = [(false, eval eb X.env)]) (ha : PE X ea (tO Z Fo W a)) (hb : PE X eb (tO Z Fo W b)) : PE X (.Call (.Name nm p) [ea, eb] [] pos) (tE Z Fo W (opd2 a b (mn2M mx))) := by
  have key : ∀ {σ : L2.St} {H : Hp} {Q : V → Hp → Prop}, tE Z Fo W (opd2 a b (mn2M mx)) σ H Q → tO Z Fo W a σ H fun x H1 => tO Z Fo W b σ H1 fun y H2 => ∃ i j, x = .int i ∧ y = .int j ∧ Q (.int (if mx then (if j > i then j else i) else if j < i then j else i)) H2 := fun ⟨g, m, G, h⟩ => rd_opd2 G h fun g' m' H' x y d e G' _ px py q => by
    match d, e, q with
    | .int i, .int j, q => exact ⟨i, j, px.int, py.int, q _ _ _ G' .rfl' (.int _)⟩
  cases mx with
  | true =>
    subst hnm
    refine (pe_callB (call_max2 hc) hg hm (by decide +kernel) (pa_cons ha (pa_cons hb pa_nil he2) (by rw [he, he2])) (he := by rw [he, he2]) (hpl := by rw [he2]; rfl)).imp fun σ H Q h => tO_imp (key h) fun v H1 q => tO_imp q fun w H2 ⟨i, j, e1, e2, q2⟩ => ?_
    subst e1 e2
    exact ⟨i, j, rfl, q2⟩
  | false =>
    subst hnm
    refine (pe_callB (call_min2 hc) hg hm (by decide +kernel) (pa_cons ha (pa_cons hb pa_nil he2) (by rw [he, he2])) (he := by rw [he, he2]) (hpl := by rw [he2]; rfl)).imp fun σ H Q h => tO_imp (key h) fun v H1 q => tO_imp q fun w H2 ⟨i, j, e1, e2, q2⟩ => ?_
    subst e1 e2
    exact ⟨i, j, rfl, q2⟩
def listN : D → Mo Ob
  | .tup ds => .ret (.lst ds)
  | .ktp ds => .ret (.lst ds)
  | .lst ds => .ret (.lst ds)
  | _ => .no
theorem de_list (hK : X.K = Z.K) (hg : Gl X "list") (hm : X.mg "list" = none) (he : starEach [ea] X.env = [(false, eval ea X.env)]) (ha : PE X ea (tO Z Fo W a)) : PE X (.Call (.Name "list" p) [ea] [] pos) (tN Z Fo W (opd1 a listN)) := by
  refine (pe_callTy call_list_of hg hm (by decide +kernel) (pa_cons ha pa_nil he) (he := he)).imp fun σ H Q ⟨g, m, G, h⟩ => rd_opd1 G h fun g' m' H' x d G' _ px q => ?_
  have new : ∀ {ds : List D} {vs : List V}, DVs Z g'.G g'.μ m'.S.length ds vs → Pg Z Fo W (RN Z Fo) g' m'.S.length σ Q (.ok (.lst ds) m') → ∀ l, H' l = none → Q (.ref l) (upd H' l (.lst vs)) := fun r h p n => by
    obtain ⟨f1, f2, f3⟩ := G'.free n
    exact h _ _ _ (G'.fresh n) .rfl' ⟨p, _, rfl, upd_same, ⟨_, rfl, r⟩, f1, f2, f3⟩
  cases d with
  | tup ds => obtain ⟨b, vs, rfl, hb, _, r⟩ := px.tup G'; exact ⟨b, vs, rfl, .inr (hK ▸ hb), new r q⟩
  | ktp ds => obtain ⟨b, vs, rfl, hb, r⟩ := px.ktp G'; exact ⟨b, vs, rfl, .inr (hK ▸ hb), new r q⟩
  | lst ds => obtain ⟨b, vs, rfl, hb, r⟩ := px.lst G'; exact ⟨b, vs, rfl, .inl (.inl hb), new r q⟩
  | _ => exact q.elim

/-! ### d.get(k, x) -/
def isDct : D → Bool
  | .dct _ _ => true
  | _ => false
def dgetM (a : Opd) (f r : Mo D) : Mo D := fun m => (a.pre m).bind fun x m1 => if ((a.get x m1).map isDct) = some true then (f m1).bind fun k m2 => (r m2).bind fun z m3 => match a.get x m3 with
  | some (.dct t kvs) => match getD? (.dct t kvs) (look m3 k) with
    | some (some d) => .ok d m3
    | some none => .ok z m3
    | none => .no
  | _ => .no
  else .no
theorem de_dget {f r : Mo D} (hu : X.A.units + 65 < cLine) (ha : PE X ea (tO Z Fo W a)) (hb : PE X eb (tE Z Fo W f)) (hc : PE X ec (tE Z Fo W r)) (M : M2 X ea "get" apos eb ec cpos) : PE X (.Call (.Attribute ea "get" apos) [eb, ec] [] cpos) (tE Z Fo W (dgetM a f r)) := by
  refine (pe_dget2 (by omega) ha hb hc M).imp fun σ H Q ⟨g, m, G, h⟩ => opd_pass G h fun v H' d g' m' G' E p pv => ?_
  by_cases c : ((a.get d m').map isDct) = some true
  · rw [if_pos c] at p
    cases e1 : a.get d m' with
    | none => rw [e1] at c; cases c
    | some dd =>
      rw [e1] at c
      have pv1 := pv g' m' H' dd G' .rfl' e1
      have isd : ∃ b, v = .ref b ∧ IsD H' b := by
        cases dd with
        | dct t kvs =>
          cases t with
          | false => obtain ⟨b, ks, e, hb, _⟩ := pv1.dct0 G'; exact ⟨b, e, .inl ⟨ks, .inl hb⟩⟩
          | true => obtain ⟨b, ks, e, hb, _⟩ := pv1.dct1 G'; exact ⟨b, e, .inr ⟨ks, .inl hb⟩⟩
        | _ => cases c
      obtain ⟨b, rfl, isd⟩ := isd
      refine ⟨b, rfl, isd, g', m', G', (Pg.bind (R := RD Z) p).imp fun y H2 ⟨k, g2, m2, G2, E2, dk, _, p2⟩ => ⟨g2, m2, G2, (Pg.bind (R := RD Z) p2).imp fun z H3 ⟨zd, g3, m3, G3, E3, dz, _, p3⟩ => ?_⟩⟩
      cases e2 : a.get d m3 with
      | none => simp only [e2] at p3; exact p3.elim
      | some d3 =>
        have pv3 := pv g3 m3 H3 d3 G3 (E2.trans E3) e2
        cases d3 with
        | dct t kvs =>
          simp only [e2] at p3
          cases e3 : getD? (.dct t kvs) (look m3 k) with
          | none => simp only [e3] at p3; exact p3.elim
          | some o =>
            simp only [e3] at p3
            obtain ⟨b3, ro, ex, dg, rr⟩ := askedD G3 pv3 (pv_look G3 (dk.ext E3)) e3
            cases ex
            refine ⟨ro, dg, ?_⟩
            cases o with
            | none => cases ro with
              | none => exact p3 _ _ _ G3 .rfl' dz
              | some _ => exact rr.elim
            | some dv => cases ro with
              | none => exact rr.elim
              | some _ => exact p3 _ _ _ G3 .rfl' rr
        | _ => simp only [e2] at p3; exact p3.elim
  · rw [if_neg c] at p; exact p.elim
end
section
variable {Z : Stc} {W : WX} {X : Cx}
/-! ### a wider ground -/
theorem Good.weak {Fo Fo' : Hp} {g : Gh} {m : Mst} {σ : L2.St} {H : Hp} (G : Good Z Fo' g m σ H) (h : ∀ a o, Fo a = some o → Fo' a = some o) : Good Z Fo g m σ H :=
  ⟨⟨G.s.gh, fun a o e => G.s.fo a o (h a o e), G.s.st, fun a w e => by
    obtain ⟨y1, y2, y3⟩ := G.s.ow a w e
    refine ⟨y1, ?_, y3⟩
    cases q : Fo a with
    | none => rfl
    | some o => rw [h a o q] at y2; cases y2⟩, G.len, G.sl⟩
theorem Ext.weak {Fo Fo' : Hp} {g g' : Gh} {N N' : Nat} (E : Ext Fo' g N g' N') (h : ∀ a o, Fo a = some o → Fo' a = some o) : Ext Fo g N g' N' :=
  ⟨E.mor, fun a o e => (E.new a o e).imp_right fun y => by
    cases q : Fo a with
    | none => rfl
    | some o => rw [h a o q] at y; cases y⟩
theorem Good.under {Fo : Hp} {g : Gh} {m : Mst} {σ : L2.St} {H : Hp} {p : Addr} {o : HO} (G : Good Z Fo g m σ H) (n : H p = none) : Good Z (upd Fo p o) g m σ (upd H p o) := by
  have G1 := G.fresh (o := o) n
  obtain ⟨f1, f2, f3⟩ := G.free n
  refine ⟨⟨G1.s.gh, fun a u e => ?_, G1.s.st, fun a w e => ?_⟩, G1.len, G1.sl⟩
  · by_cases z : a = p
    · subst z; rw [upd_same] at e ⊢; exact e
    · rw [upd_ne z] at e ⊢; exact G.s.fo a u e
  · obtain ⟨y1, y2, y3⟩ := G1.s.ow a w e
    exact ⟨y1, by rw [upd_ne (fun z => by rw [z, f2] at e; cases e)]; exact y2, y3⟩
theorem Good.lift {Fo : Hp} {g0 g : Gh} {N : Nat} {m : Mst} {σ : L2.St} {H : Hp} {p : Addr} {o o' : HO} (G : Good Z (upd Fo p o) g m σ H) (f : Fo p = none) (E : Ext (upd Fo p o) g0 N g m.S.length) (f0 : g0.G p = none) :
    Good Z Fo g m σ (upd H p o') ∧ g.G p = none ∧ g.ow p = none := by
  have gp : g.G p = none := by
    cases q : g.G p with
    | none => rfl
    | some u =>
      rcases E.new p u q with h | h
      · rw [f0] at h; cases h
      · rw [upd_same] at h; cases h
  have ow : g.ow p = none := by
    cases q : g.ow p with
    | none => rfl
    | some w => have h := (G.s.ow p w q).2.1; rw [upd_same] at h; cases h
  have ne : ∀ {b : Addr} {x : HO}, b ≠ p → H b = some x → upd H p o' b = some x := fun {b x} z e => by rw [upd_ne z]; exact e
  have nw : ∀ {b : Addr} {w : Ow}, g.ow b = some w → b ≠ p := fun {b w} e z => by rw [z, ow] at e; cases e
  refine ⟨⟨⟨fun a u e => ne (fun z => by rw [z, gp] at e; cases e) (G.s.gh a u e), fun a u e => ?_, fun n s e => ?_, fun a w e => ?_⟩, G.len, fun i s e => ?_⟩, gp, ow⟩
  · have z : a ≠ p := fun z => by rw [z, f] at e; cases e
    exact ne z (G.s.fo a u (by rw [upd_ne z]; exact e))
  · have x := G.s.st n s e
    cases s with
    | ob o => obtain ⟨h, x1, x2, x3⟩ := x; exact ⟨h, x1, ne (nw x1) x2, x3⟩
    | ins c fs => obtain ⟨C, dx, fs', x1, x2, x3, x4, x5, x6⟩ := x; exact ⟨C, dx, fs', x1, x2, ne (nw x1) x3, ne (nw x5) x4, x5, x6⟩
  · obtain ⟨y1, y2, u, y3⟩ := G.s.ow a w e
    exact ⟨y1, by rw [upd_ne (nw e)] at y2; exact y2, u, ne (nw e) y3⟩
  · have x := G.sl i s e
    cases s with
    | un => trivial
    | va d => exact x
    | own ob => obtain ⟨a, h, x1, x2, x3, x4⟩ := x; exact ⟨a, h, x1, x2, ne (nw x2) x3, x4⟩
theorem sub_upd {Fo : Hp} {p : Addr} {o : HO} (n : Fo p = none) : ∀ a u, Fo a = some u → upd Fo p o a = some u := fun a u e => by
  rw [upd_ne (fun z => by rw [z, n] at e; cases e)]; exact e
/-- what is wanted over a wider ground, by what is wanted over the narrow one -/
theorem Pg.weak {α β : Type} {R : Gh → Nat → Hp → α → β → Prop} {Fo Fo' : Hp} {g : Gh} {N : Nat} {σ : L2.St} {Q Q' : β → Hp → Prop} {r : Res α} (h : Pg Z Fo W R g N σ Q r) (s : ∀ a o, Fo a = some o → Fo' a = some o)
    (q : ∀ a m v H g', Good Z Fo' g' m σ H → Ext Fo' g N g' m.S.length → R g' m.S.length H a v → r = .ok a m → (∀ v H g', Good Z Fo g' m σ H → Ext Fo g N g' m.S.length → R g' m.S.length H a v → Q v H) → Q' v H) : Pg Z Fo' W R g N σ Q' r := by
  cases r with
  | ok a m => exact fun v H g' G E rr => q a m v H g' G E rr rfl h
  | exc x m => exact fun c dd H g' G E ex => h c dd H g' (G.weak s) (E.weak s) ex
  | no => exact h

/-- over some ground -/
def tEx (Z : Stc) (W : WX) (f : Mo D) : TE := fun σ H Q => ∃ Fo, tE Z Fo W f σ H Q
def tTx (Z : Stc) (W : WX) (f : Mo Bool) : TT := fun σ H Q => ∃ Fo, tT Z Fo W f σ H Q
theorem pe_x {e : Expr} {f : Mo D} (h : ∀ Fo, PE X e (tE Z Fo W f)) : PE X e (tEx Z W f) := ⟨fun pins s σ H Q I ⟨Fo, k⟩ => (h Fo).run pins s σ H Q I k⟩
theorem pt_x {e : Expr} {f : Mo Bool} (h : ∀ Fo, PT X e (tT Z Fo W f)) : PT X e (tTx Z W f) := ⟨fun pins s σ H Q I ⟨Fo, k⟩ => (h Fo).run pins s σ H Q I k⟩
/-! ### a dict that is written -/
def prsM : List (Mo D × Mo D) → Mo (List (D × D))
  | [] => .ret []
  | (f, r) :: s => f.bind fun k => r.bind fun v => Mo.bind (prsM s) fun ps => .ret ((k, v) :: ps)
def okKeys (ps : List (D × D)) : Bool := ps.all fun p => (keyD p.1).isSome
def dctM (ps : List (Mo D × Mo D)) : Mo Ob := (prsM ps).bind fun kvs m => if okKeys kvs = true ∧ kvs.length ≤ 15 then .ok (.dct false (mergeD [] kvs)) m else .no
def RPs (Z : Stc) : Gh → Nat → Hp → List (D × D) → List (V × V) → Prop := fun g N _ ds vs => DVs Z g.G g.μ N (ds.map (·.1)) (vs.map (·.1)) ∧ DVs Z g.G g.μ N (ds.map (·.2)) (vs.map (·.2))
theorem rd_prs {Fo : Hp} {σ : L2.St} : ∀ {ps : List (Mo D × Mo D)} {g : Gh} {m : Mst} {H : Hp} {Q : List (V × V) → Hp → Prop}, Good Z Fo g m σ H → Pg Z Fo W (RPs Z) g m.S.length σ Q (prsM ps m) → tPairs (ps.map fun p => (tEx Z W p.1, tEx Z W p.2)) σ H Q
  | [], g, m, H, Q, G, h => h [] H g G .rfl' ⟨.nil, .nil⟩
  | (f, r) :: s, g, m, H, Q, G, h => by
    refine ⟨Fo, g, m, G, (Pg.bind (R := RD Z) h).imp fun k H1 ⟨dk, g1, m1, G1, E1, rk, _, p1⟩ => ⟨Fo, g1, m1, G1, (Pg.bind (R := RD Z) p1).imp fun v H2 ⟨dv, g2, m2, G2, E2, rv, _, p2⟩ => ?_⟩⟩
    refine rd_prs (ps := s) G2 ((Pg.bind (R := RPs Z) p2).imp fun vs H3 ⟨ds, g3, m3, G3, E3, ⟨q1, q2⟩, _, p3⟩ => p3 _ _ _ G3 .rfl' ⟨.cons ((rk.ext E2).ext E3) q1, .cons (rv.ext E3) q2⟩)
theorem prs_keys {G0 : Hp} {μ0 : Nat → Addr} {N : Nat} : ∀ {ds : List (D × D)} {vs : List (V × V)}, DVs Z G0 μ0 N (ds.map (·.1)) (vs.map (·.1)) → DVs Z G0 μ0 N (ds.map (·.2)) (vs.map (·.2)) → okKeys ds = true →
    ∃ ks : List (Key × V), vs = ks.map (fun kv => (kV kv.1, kv.2)) ∧ DVk Z G0 μ0 N ds ks
  | [], [], _, _, _ => ⟨[], rfl, .nil⟩
  | (a, b) :: ds, (x, y) :: vs, .cons h1 h2, .cons h3 h4, ok => by
    have ok' : (keyD a).isSome = true ∧ okKeys ds = true := by simpa [okKeys] using ok
    obtain ⟨ks, e, r⟩ := prs_keys h2 h4 ok'.2
    obtain ⟨k, ek⟩ := Option.isSome_iff_exists.mp ok'.1
    have ex : x = kV k := by
      cases a with
      | int i => cases ek; cases h1; rfl
      | str z => cases ek; cases h1; rfl
      | _ => cases ek
    exact ⟨(k, y) :: ks, by rw [List.map_cons, ex, e], .cons ek h3 r⟩
  | [], _ :: _, h, _, _ => by cases h
  | _ :: _, [], h, _, _ => by cases h
theorem de_dct {Fo : Hp} {ps : List (Mo D × Mo D)} {keys : List (Option Expr)} {values : List Expr} {pos : Pos} (h : PPs X pos keys values (ps.map fun p => (tEx Z W p.1, tEx Z W p.2))) (hall : keys.all (·.isSome) = true) (hl : keys.length = values.length) (h0 : keys ≠ [])
    (hz : keys.length ≤ 15) : PE X (.Dict keys values pos) (tN Z Fo W (dctM ps)) := by
  refine (pe_disp h hall hl h0 hz).imp fun σ H Q ⟨g, m, G, k⟩ p n => ?_
  obtain ⟨f1, _, f3⟩ := G.free n
  refine rd_prs (Fo := upd Fo p (.dK [])) (G.under n) ?_
  change Pg Z Fo W (RN Z Fo) g m.S.length σ Q ((prsM ps m).bind _) at k
  cases e : prsM ps m with
  | no => rw [e] at k; exact k.elim
  | exc x m1 =>
    rw [e] at k
    exact fun c dd H2 g2 G2 E2 ex => k c dd H2 g2 (G2.weak (sub_upd f3)) (E2.weak (sub_upd f3)) ex
  | ok ds m1 =>
    rw [e] at k
    simp only [Res.bind_ok] at k
    intro vs H2 g2 G2 E2 ⟨r1, r2⟩
    have hp : H2 p = some (.dK []) := G2.s.fo p _ upd_same
    by_cases c : okKeys ds = true ∧ ds.length ≤ 15
    · rw [if_pos c] at k
      obtain ⟨ks, ev, dk⟩ := prs_keys r1 r2 c.1
      refine ⟨hp, ks, ev, by rw [← dk.length]; exact c.2, ?_⟩
      obtain ⟨G3, gp, ow⟩ := G2.lift f3 E2 f1 (o' := .dK (mergeK [] ks))
      exact k _ _ g2 G3 (E2.weak (sub_upd f3)) ⟨p, _, rfl, upd_same, ⟨_, rfl, DVk.merge dk .nil⟩, gp, ow, f3⟩
    · rw [if_neg c] at k; exact k.elim
end
end LB

namespace LB
open PySem L2 PyProof.Rows

/-! ### what enumerate and zip go through: a list, a tuple, a text -/
inductive Src where
  | l (a : Addr) | t (a : Addr) | s (x : Str)
def signsV (x : Str) : List V := x.cps.toList.map fun c => .str ⟨#[c]⟩
namespace Src
def has (K : PySem.W.Frag) (H : Hp) : Src → List V → Prop
  | .l a, vs => SqL K H a vs
  | .t a, vs => SqT K H a vs
  | .s x, vs => vs = signsV x
def itn : Src → Addr → Nat → Heap → Prop
  | .l a, it, i, h => h.IsListIter it a i
  | .t a, it, i, h => h.IsTupleIter it a i
  | .s x, it, i, h => ∃ t, h.IsStrIter it (strIterType x) x t i
def adr : Src → List Addr
  | .l a => [a]
  | .t a => [a]
  | .s _ => []
def val : Src → V → Prop
  | .l a, v => v = .ref a
  | .t a, v => v = .ref a
  | .s x, v => v = .str x
end Src
section
variable {X : Cx} {pins : List (Addr × Obj)} {σ : L2.St} {H : Hp} {s : Shared} {q : Src} {vs ws : List V}
theorem Src.inj (I : Inv X pins σ H s) (h : q.has X.K H vs) (h' : q.has X.K H ws) : vs = ws := by
  cases q with
  | l a => exact I.list_inj h h'
  | t a => exact I.tuple_inj h h'
  | s x => exact Eq.trans h (Eq.symm h')
theorem Src.rec_at {it : Addr} {i : Nat} {h : Heap} (x : q.itn it i h) : ∃ o, h.get? it = some o ∧ ∀ v, o.data ≠ .cell v := by
  cases q with
  | l a => obtain ⟨o, e, _, d⟩ := x; exact ⟨o, e, fun v z => by rw [d] at z; cases z⟩
  | t a => obtain ⟨o, e, _, d⟩ := x; exact ⟨o, e, fun v z => by rw [d] at z; cases z⟩
  | s a => obtain ⟨t, o, e, _, d⟩ := x; exact ⟨o, e, fun v z => by rw [d] at z; cases z⟩
theorem Src.itn_at {it : Addr} {i : Nat} {h h' : Heap} (x : q.itn it i h) (k : ∀ o, h.get? it = some o → h'.get? it = some o) : q.itn it i h' := by
  cases q with
  | l a => exact Heap.IsListIter.at x k
  | t a => exact Heap.IsTupleIter.at x k
  | s a => obtain ⟨t, o, e, r⟩ := x; exact ⟨t, o, k o e, r⟩
theorem Src.lt (I : Inv X pins σ H s) (h : q.has X.K H vs) : ∀ a ∈ q.adr, a < s.heap.objs.size := by
  cases q with
  | l a =>
    intro b hb
    cases List.mem_singleton.mp hb
    obtain ⟨its, r, p, _⟩ := I.list h
    exact p.lt
  | t a =>
    intro b hb
    cases List.mem_singleton.mp hb
    obtain ⟨its, r, ⟨o, e, _⟩, _⟩ := I.tuple h
    exact Heap.lt_size e
  | s x => exact fun _ hb => nomatch hb
theorem back_at {vs : List V} {us : List Value} (r : Vals vs us) {i : Nat} {u : Value} (e : us[i]? = some u) : ∃ x, vs[i]? = some x ∧ RelV x u := by
  induction r generalizing i with
  | nil => simp at e
  | cons h r ih =>
    cases i with
    | zero => cases e; exact ⟨_, rfl, h⟩
    | succ i => exact ih (by simpa using e)
theorem off_new {n k : Nat} {l : List Addr} (h : ∀ a ∈ l, a < n) {j : Nat} (d : n + k ≠ j) : (n + k : Nat) ∉ (j : Addr) :: l := fun z => by
  rcases List.mem_cons.mp z with z | z
  · exact d z
  · exact absurd (h _ z) (by show ¬ (n + k < n); omega)
/-- what its iterator draws -/
theorem Src.draws {B : Around} (I : Inv X pins σ H s) (hh : B.handled = none) (h : q.has X.K H vs) {it : Addr} {i : Nat} (st : q.itn it i s.heap) (ne : it ∉ q.adr) :
    ∃ (P : Nat → Value → Prop) (St : Nat → Heap → Prop), Draws X.prog X.w B it (it :: q.adr) vs.length P St ∧ St i s.heap ∧ (∀ j h', St j h' → q.itn it j h') ∧ ∀ j v, P j v → ∃ x, vs[j]? = some x ∧ RelV x v := by
  cases q with
  | l a =>
    obtain ⟨its, r, p, _⟩ := I.list h
    refine ⟨fun i v => its.toArray[i]? = some v, fun i h => h.IsListIter it a i ∧ h.IsList a its.toArray, ?_, ⟨st, p.isList⟩, fun j h' z => z.1, fun j v e => back_at r (by simpa using e)⟩
    rw [r.length, ← List.size_toArray]
    exact Draws.list (A := B) hh it a (fun z => ne (by rw [← z]; exact List.mem_cons_self)) its.toArray
  | t a =>
    obtain ⟨its, r, p, _⟩ := I.tuple h
    refine ⟨fun i v => its.toArray[i]? = some v, fun i h => h.IsTupleIter it a i ∧ h.IsTuple a its.toArray, ?_, ⟨st, p⟩, fun j h' z => z.1, fun j v e => back_at r (by simpa using e)⟩
    rw [r.length, ← List.size_toArray]
    exact Draws.tuple (A := B) hh it a (fun z => ne (by rw [← z]; exact List.mem_cons_self)) its.toArray
  | s x =>
    obtain ⟨t, st⟩ := st
    cases h
    refine ⟨fun i v => ∃ c u, x.cps[i]? = some c ∧ v = .str ⟨#[c]⟩ u, fun i h => h.IsStrIter it (strIterType x) x t i, ?_, st, fun j h' z => ⟨t, z⟩, fun j v ⟨c, u, e, w⟩ => ⟨.str ⟨#[c]⟩, ?_, ?_⟩⟩
    · rw [show (signsV x).length = x.cps.size by simp [signsV]]
      exact Draws.text (A := B) hh it x t
    · unfold signsV
      rw [List.getElem?_map, Array.getElem?_toList, e]
      rfl
    · subst w; exact ⟨u, rfl⟩
theorem Src.begins (I : Inv X pins σ H s) (h : q.has X.K H vs) {v : V} {u : Value} (hv : q.val v) (r : RelV v u) : ∃ (o : Obj) (P : Heap → Prop), Begins u o P ∧ P s.heap ∧ ∀ h' it, h'.get? it = some o → q.itn it 0 h' := by
  cases q with
  | l a =>
    cases hv
    cases r
    obtain ⟨its, _, p, _⟩ := I.list h
    exact ⟨_, _, begins_list a its.toArray, p.isList, fun h' it e => ⟨_, e, rfl, rfl⟩⟩
  | t a =>
    cases hv
    cases r
    obtain ⟨its, _, p, _⟩ := I.tuple h
    exact ⟨_, _, begins_tuple a its.toArray, p, fun h' it e => ⟨_, e, rfl, rfl⟩⟩
  | s x =>
    cases hv
    obtain ⟨t, rfl⟩ := r
    exact ⟨_, _, begins_text x t, trivial, fun h' it e => ⟨t, _, e, rfl, rfl⟩⟩
end

set_option maxHeartbeats 1000000 in
theorem meets_en {v : Value} {o : Obj} {P : Heap → Prop} (B : Begins v o P) :
    Meets (Builtin.«enumerate.__new__» ⟨[.type "enumerate", v], []⟩) (fun _ R s => P s.heap ∧
      R (.ok (.ret (.ref (s.heap.push o).objs.size))) { s with heap := (s.heap.push o).push { cls := .type "enumerate", data := .fields #[.none, .bool false, .ref s.heap.objs.size, rawInt 0, .none, .none] } }) :=
  .of_wp fun prog w A R s h => by
    obtain ⟨hp, g, d, tk, os⟩ := s; obtain ⟨h1, h⟩ := h
    have sub := sub_enumerate
    have q1 : ∀ {A' : Around} {E : Value → Shared → Prop} {Q : Value → Shared → Prop}, Q (.ref hp.objs.size) ⟨hp.push o, g, d, tk, os⟩ → wpAny (model prog w) A' (pyIter v) Q E ⟨hp, g, d, tk, os⟩ :=
      fun z => B.iter prog w _ _ ⟨hp, g, d, tk, os⟩ _ h1 z
    wp_walk using q1
    refine wpAny_stack_any fun st => wpAny_pure ?_
    split
    · rename_i c _ _ _ _ _
      cases (c == Value.type "enumerate") <;>
      · wp_walk using q1
        exact ⟨_, rfl, h⟩
    · wp_walk using q1
      exact ⟨_, rfl, h⟩
section
variable {prog : Program} {w : World} {A : Around} {E : Value → Shared → Prop} {s : Shared}
theorem call_en {v : Value} {o : Obj} {P : Heap → Prop} {Q : Value → Shared → Prop} (B : Begins v o P) (h1 : P s.heap)
    (h : ∀ h', IsEnum h' (s.heap.objs.size + 1) s.heap.objs.size 0 .none → h'.get? s.heap.objs.size = some o →
      (∀ b o, s.heap.get? b = some o → h'.get? b = some o) → Q (.ref (s.heap.objs.size + 1)) { s with heap := h' }) :
    wpAny (model prog w) A (call (.type "enumerate") [v]) Q E s := by
  have sz : (s.heap.push o).objs.size = s.heap.objs.size + 1 := Heap.size_push ..
  have k1 : ∀ {o2 : Obj}, ((s.heap.push o).push o2).get? s.heap.objs.size = some o := Heap.get?_push_of_some _ (Heap.get?_push_size _ B.free)
  have k2 : ∀ {o2 : Obj}, o2.isFreed = false → ((s.heap.push o).push o2).get? (s.heap.objs.size + 1) = some o2 := fun {o2} f => by
    rw [← sz]; exact Heap.get?_push_size _ f
  refine callType_new F.called_enumerate (by decide) (F.typeCall_enumerate_1 _) (F.newCall_enumerate_1 _) (fun obj => F.args_object_init_2 obj _) F.entry_enumerate_new (meets_en B) ⟨h1, ?_⟩
  show _ ∧ _
  rw [sz]
  exact ⟨⟨_, k2 rfl, rfl⟩, h _ (k2 rfl) k1 fun b o x => Heap.get?_push_of_some _ (Heap.get?_push_of_some _ x)⟩
end

/-- enumerate: each turn a new pair -/
def ItE (K : PySem.W.Frag) (q : Src) : It :=
  ⟨fun i H => ∃ vs x, q.has K H vs ∧ vs[i]? = some x,
   fun i H v H' => ∃ T x, v = .ref T ∧ H T = none ∧ H' = upd H T (.tup [.int (i : Nat), x]) ∧ ∀ vs, q.has K H vs → vs[i]? = some x,
   fun i H => ∃ vs, q.has K H vs ∧ vs.length = i⟩
theorem turn_en {P : Program} {w : World} {K : PySem.W.Frag} {elts : List Expr} {kk : Nat} {tpos : Pos} {q : Src} {e it : Addr} (ne : e ∉ it :: q.adr) (ni : it ∉ q.adr) :
    Turn P w K (.Tuple elts kk tpos) (ItE K q) [e, it] e (fun i h => (∃ old, IsEnum h e it ((i : Nat) : Int) old) ∧ q.itn it i h) where
  mem := List.mem_cons_self
  obj := fun i h ⟨⟨old, he⟩, hi⟩ b hb => by
    rcases List.mem_cons.mp hb with z | z
    · subst z; exact ⟨_, he, fun v q => nomatch q⟩
    · cases List.mem_singleton.mp z; exact Src.rec_at hi
  keep := fun i h h' ⟨⟨old, he⟩, hi⟩ k => ⟨⟨old, k e List.mem_cons_self _ he⟩, Src.itn_at hi fun o z => k it (List.mem_cons_of_mem _ List.mem_cons_self) o z⟩
  item := by
    intro X hP hw hK hc i pins s σ H E I hf ⟨⟨old, he⟩, hit⟩ ⟨xs, x, hq, hx⟩
    subst hP hw hK
    obtain ⟨Pd, St, D, st, back, rel⟩ := Src.draws (B := X.A.in1) I (I.ok.hd hc) hq hit ni
    have nit : e ≠ it := fun z => ne (by rw [z]; exact List.mem_cons_self)
    have lt : i < xs.length := (List.getElem?_eq_some_iff.mp hx).1
    have hel : e < s.heap.objs.size := Heap.lt_size he
    have hil : it < s.heap.objs.size := by obtain ⟨o, z, _⟩ := Src.rec_at hit; exact Heap.lt_size z
    refine wpAny_pyNext_enum_itemD D he st lt nit ne fun u h' tk pu ho st' hT hsz hk => ⟨_, rfl, ?_⟩
    obtain ⟨y, ey, ru⟩ := rel i u pu
    rw [hx] at ey; cases ey
    refine wpAny_letOwnedTupleGo_enum (s := { s with heap := h', toks := tk + 1 }) ho fun h2 he2 sb => ?_
    have hT2 : h2.get? s.heap.objs.size = some { cls := .type "tuple", data := .seq #[.int i tk, u] } := (sb.2 _ (Nat.ne_of_gt hel)).trans hT
    have new : ObjOk X.prog X.w (upd H s.heap.objs.size (.tup [.int (i : Nat), x])) h2 s.heap.objs.size (.tup [.int (i : Nat), x]) :=
      ⟨by show 2 ≤ sizeLine; decide, [.int i tk, u], .cons ⟨_, rfl⟩ (.cons ru .nil), ⟨_, hT2, rfl, _, rfl⟩⟩
    have I1 : Inv X pins σ (upd H s.heap.objs.size (.tup [.int (i : Nat), x])) { s with heap := h2, toks := tk + 1 } :=
      I.turnedNew (ch := [e, it]) (fun b ob hb z => (sb.2 b (fun y => hb (by simp [y]))).trans (hk b ob (fun y => hb (by simp [y])) (fun y => hb (by simp [y])) z)) hf (Nat.le_refl _) new
    refine ⟨.ref s.heap.objs.size, _, I1, rfl, ⟨_, x, rfl, I.hok.fresh (Nat.le_refl _), rfl, fun ys hy => by rw [Src.inj I hy hq]; exact hx⟩, ⟨⟨u, ?_⟩, Src.itn_at (back _ _ st') fun o z => (sb.2 it (Ne.symm nit)).trans z⟩, fun b hb => ?_⟩
    · rw [show ((i + 1 : Nat) : Int) = (i : Int) + 1 by omega]; exact he2
    · have hlt : b < s.heap.objs.size := by
        rcases List.mem_cons.mp hb with z | z
        · rw [z]; exact hel
        · rw [List.mem_singleton.mp z]; exact hil
      rw [upd_ne (Nat.ne_of_lt hlt)]
      exact (hf b hb).1
  done := by
    intro X hP hw hK hc i pins s σ H E I hf ⟨⟨old, he⟩, hit⟩ ⟨xs, hq, hx⟩
    subst hP hw hK
    obtain ⟨Pd, St, D, st, _, _⟩ := Src.draws (B := X.A.in1) I (I.ok.hd hc) hq hit ni
    subst hx
    obtain ⟨f0, f1, f2, f3, f4, f5⟩ := hf it (List.mem_cons_of_mem _ List.mem_cons_self)
    exact wpAny_pyNext_enum_endD D he st fun h' eb => ⟨rfl, I.turned (t' := s.toks) (fun b o hb z => eb b o hb z) f0 f1 f3 f4 f5⟩
  self := fun A i s Q E ⟨⟨_, he⟩, _⟩ h => wpAny_pyIter_enum he h
def iEn (K : PySem.W.Frag) (ta : TA) : TI := fun σ H R => ta σ H fun us H1 => ∃ v q xs, us = [v] ∧ Src.val q v ∧ q.has K H1 xs ∧ R (ItE K q) H1
theorem pi_en {X : Cx} {e : Expr} {ta : TA} {p pos tpos : Pos} {elts : List Expr} {kk : Nat} (hg : Gl X "enumerate") (hm : X.mg "enumerate" = none) (ha : PA X [e] ta) (he : starEach [e] X.env = [(false, eval e X.env)]) :
    PI X (.Tuple elts kk tpos) (.Call (.Name "enumerate" p) [e] [] pos) (iEn X.K ta) := by
  refine ⟨fun pins s σ H R I h => Call_ (ld_blt I hg hm boot_enumerate (PyProof.Rows.callWith_type1 (thn (ha.run pos pins s σ H _ I h) fun us s1 ⟨vs, H1, I1, r1, q1⟩ => ?_) he rfl))⟩
  obtain ⟨v, q, xs, ex, hv, hq, hr⟩ := q1
  subst ex
  cases r1 with
  | cons r rr =>
    cases rr
    obtain ⟨o, Ph, B, hp, hb⟩ := Src.begins I1 hq hv r
    refine call_en B hp fun h' he hit hk => wpAny_pyIter_enum he ?_
    have lt := Src.lt I1 hq
    have I2 : Inv X pins σ H1 { s1 with heap := h' } := I1.kept (t' := s1.toks) hk
    refine ⟨s1.heap.objs.size + 1, [s1.heap.objs.size + 1, s1.heap.objs.size], _, _, H1, rfl, I2, turn_en (q := q) (e := s1.heap.objs.size + 1) (it := s1.heap.objs.size) (off_new (j := s1.heap.objs.size) lt (by omega)) (fun z => Nat.lt_irrefl _ (lt _ z)), ⟨⟨.none, he⟩, hb _ _ hit⟩, fun b hb => ?_, hr⟩
    · have le : s1.heap.objs.size ≤ b := by
        rcases List.mem_cons.mp hb with z | z
        · rw [z]; exact Nat.le_add_right _ _
        · rw [List.mem_singleton.mp z]; exact Nat.le_refl _
      exact I1.fpOk le (I1.hok.fresh le)

/-- zip: each turn a new pair -/
def ItZ (K : PySem.W.Frag) (q1 q2 : Src) : It :=
  ⟨fun i H => ∃ vs ws x y, q1.has K H vs ∧ q2.has K H ws ∧ vs[i]? = some x ∧ ws[i]? = some y,
   fun i H v H' => ∃ T x y, v = .ref T ∧ H T = none ∧ H' = upd H T (.tup [x, y]) ∧ (∀ vs, q1.has K H vs → vs[i]? = some x) ∧ ∀ ws, q2.has K H ws → ws[i]? = some y,
   fun i H => ∃ vs ws, q1.has K H vs ∧ q2.has K H ws ∧ i ≤ vs.length ∧ i ≤ ws.length ∧ (i = vs.length ∨ i = ws.length)⟩
theorem turn_zz {P : Program} {w : World} {K : PySem.W.Frag} {elts : List Expr} {kk : Nat} {tpos : Pos} {q1 q2 : Src} {z TI TO i1 i2 : Addr} (D : ZipSep2 z TI TO i1 i2 (i1 :: q1.adr) (i2 :: q2.adr)) (n1 : i1 ∉ q1.adr) (n2 : i2 ∉ q2.adr) :
    Turn P w K (.Tuple elts kk tpos) (ItZ K q1 q2) [z, TI, TO, i1, i2] z (fun i h => IsZip h z TI TO .none ∧ IsTupOf2 h TI (.ref i1) (.ref i2) ∧ (∃ x y, IsTupOf2 h TO x y) ∧ q1.itn i1 i h ∧ q2.itn i2 i h) where
  mem := List.mem_cons_self
  obj := fun i h ⟨hz, hTI, ⟨x, y, hTO⟩, h1, h2⟩ c hc => by
    have e' : c = z ∨ c = TI ∨ c = TO ∨ c = i1 ∨ c = i2 := by simpa using hc
    rcases e' with q | q | q | q | q
    · rw [q]; exact ⟨_, hz, fun v q => nomatch q⟩
    · rw [q]; exact ⟨_, hTI, fun v q => nomatch q⟩
    · rw [q]; exact ⟨_, hTO, fun v q => nomatch q⟩
    · rw [q]; exact Src.rec_at h1
    · rw [q]; exact Src.rec_at h2
  keep := fun i h h' ⟨hz, hTI, ⟨x, y, hTO⟩, h1, h2⟩ k => ⟨k z (by simp) _ hz, k TI (by simp) _ hTI, ⟨x, y, k TO (by simp) _ hTO⟩, Src.itn_at h1 fun o q => k i1 (by simp) o q, Src.itn_at h2 fun o q => k i2 (by simp) o q⟩
  item := by
    intro X hP hw hK hc i pins s σ H E I hf ⟨hz, hTI, ⟨x0, y0, hTO⟩, h1, h2⟩ ⟨xs, ys, x, y, hqx, hqy, hx, hy⟩
    subst hP hw hK
    obtain ⟨P1, S1, D1, s1, b1, r1⟩ := Src.draws (B := X.A.in1) I (I.ok.hd hc) hqx h1 n1
    obtain ⟨P2, S2, D2, s2, b2, r2⟩ := Src.draws (B := X.A.in1) I (I.ok.hd hc) hqy h2 n2
    have zl : z < s.heap.objs.size := Heap.lt_size hz
    refine wpAny_pyNext_zipD2_item D D1 D2 hz hTI hTO s1 s2 (List.getElem?_eq_some_iff.mp hx).1 (List.getElem?_eq_some_iff.mp hy).1 fun u v h' tk pu pv z' TO' s1' s2' hT hsz hk => ⟨_, rfl, ?_⟩
    obtain ⟨x', ex, ru⟩ := r1 i u pu
    rw [hx] at ex; cases ex
    obtain ⟨y', ey, rv⟩ := r2 i v pv
    rw [hy] at ey; cases ey
    refine wpAny_letOwnedTupleGo_zip (s := { s with heap := h', toks := tk }) z' fun h'' z'' sb => ?_
    have hT2 : h''.get? s.heap.objs.size = some { cls := .type "tuple", data := .seq #[u, v] } := (sb.2 _ (Nat.ne_of_gt zl)).trans hT
    have new : ObjOk X.prog X.w (upd H s.heap.objs.size (.tup [x, y])) h'' s.heap.objs.size (.tup [x, y]) :=
      ⟨by show 2 ≤ sizeLine; decide, [u, v], .cons ru (.cons rv .nil), ⟨_, hT2, rfl, _, rfl⟩⟩
    have I1 : Inv X pins σ (upd H s.heap.objs.size (.tup [x, y])) { s with heap := h'', toks := tk } :=
      I.turnedNew (ch := [z, TI, TO, i1, i2]) (fun c o hb q => (sb.2 c (fun q' => hb (by simp [q']))).trans (hk c o (fun q' => hb (by simp [q'])) (fun q' => hb (by simp [q'])) (fun q' => hb (by simp [q'])) (fun q' => hb (by simp [q'])) q)) hf (Nat.le_refl _) new
    refine ⟨.ref s.heap.objs.size, _, I1, rfl, ⟨_, x, y, rfl, I.hok.fresh (Nat.le_refl _), rfl, fun l hl => by rw [Src.inj I hl hqx]; exact hx, fun l hl => by rw [Src.inj I hl hqy]; exact hy⟩, ⟨z'', ?_, ⟨u, v, ?_⟩, ?_, ?_⟩, fun c hcm => ?_⟩
    · exact (sb.2 _ D.TIz).trans (hk _ _ D.TIz D.TITO D.TIi1 D.TIi2 hTI)
    · exact (sb.2 _ D.TOz).trans TO'
    · exact Src.itn_at (b1 _ _ s1') fun o q => (sb.2 _ D.zi1.symm).trans q
    · exact Src.itn_at (b2 _ _ s2') fun o q => (sb.2 _ D.zi2.symm).trans q
    · have hlt : c < s.heap.objs.size := by
        have e' : c = z ∨ c = TI ∨ c = TO ∨ c = i1 ∨ c = i2 := by simpa using hcm
        rcases e' with q | q | q | q | q
        · rw [q]; exact zl
        · rw [q]; exact Heap.lt_size hTI
        · rw [q]; exact Heap.lt_size hTO
        · rw [q]; obtain ⟨_, e1, _⟩ := Src.rec_at h1; exact Heap.lt_size e1
        · rw [q]; obtain ⟨_, e1, _⟩ := Src.rec_at h2; exact Heap.lt_size e1
      rw [upd_ne (Nat.ne_of_lt hlt)]
      exact (hf c hcm).1
  done := by
    intro X hP hw hK hc i pins s σ H E I hf ⟨hz, hTI, ⟨x0, y0, hTO⟩, h1, h2⟩ ⟨xs, ys, hqx, hqy, l1, l2, hend⟩
    subst hP hw hK
    obtain ⟨P1, S1, D1, s1, b1, r1⟩ := Src.draws (B := X.A.in1) I (I.ok.hd hc) hqx h1 n1
    obtain ⟨P2, S2, D2, s2, b2, r2⟩ := Src.draws (B := X.A.in1) I (I.ok.hd hc) hqy h2 n2
    exact wpAny_pyNext_zipD2_end D D1 D2 hz hTI hTO s1 s2 l1 l2 hend fun h' tk hk => ⟨rfl, I.turnedL (t' := tk) (ch := [z, TI, TO, i1, i2]) (fun c o hb q =>
      hk c o (fun q' => hb (by simp [q'])) (fun q' => hb (by simp [q'])) (fun q' => hb (by simp [q'])) (fun q' => hb (by simp [q'])) q) hf⟩
  self := fun A i s Q E st h => wpAny_pyIter_zip st.1 h
/-- the cells of a zip just made lie apart -/
theorem zipSep {n : Nat} {l1 l2 : List Addr} (h1 : ∀ a ∈ l1, a < n) (h2 : ∀ a ∈ l2, a < n) : ZipSep2 (n + 4) (n + 2) (n + 3) n (n + 1) (n :: l1) ((n + 1) :: l2) where
  TIz := show n + 2 ≠ n + 4 by omega
  TOz := show n + 3 ≠ n + 4 by omega
  TITO := show n + 2 ≠ n + 3 by omega
  TIi1 := show n + 2 ≠ n by omega
  mem1 := List.mem_cons_self
  zf1 := off_new (j := n) h1 (by omega)
  Tf1 := off_new (j := n) h1 (by omega)
  TIi2 := show n + 2 ≠ n + 1 by omega
  mem2 := List.mem_cons_self
  zf2 := off_new (j := n + 1) h2 (by omega)
  Tf2 := off_new (j := n + 1) h2 (by omega)
  sep1_2 := off_new (k := 0) (j := n + 1) h2 (by omega)
  sep2_1 := off_new (j := n) h1 (by omega)
def iZz (K : PySem.W.Frag) (ta : TA) : TI := fun σ H R => ta σ H fun us H1 => ∃ v w q1 q2 xs ys, us = [v, w] ∧ Src.val q1 v ∧ Src.val q2 w ∧ q1.has K H1 xs ∧ q2.has K H1 ys ∧ R (ItZ K q1 q2) H1
theorem zip_made {X : Cx} {pins : List (Addr × Obj)} {σ : L2.St} {H : Hp} {s : Shared} {v w : V} {u1 u2 : Value} {q1 q2 : Src} {xs ys : List V} {E : Value → Shared → Prop} {Q : Value → Shared → Prop} (I : Inv X pins σ H s) (r1 : RelV v u1) (r2 : RelV w u2) (hv : q1.val v) (hw : q2.val w) (h1 : q1.has X.K H xs) (h2 : q2.has X.K H ys)
    (h : ∀ h' z TI TO i1 i2, ZipSep2 z TI TO i1 i2 (i1 :: q1.adr) (i2 :: q2.adr) → i1 ∉ q1.adr → i2 ∉ q2.adr → IsZip h' z TI TO .none → IsTupOf2 h' TI (.ref i1) (.ref i2) → IsTupOf2 h' TO .none .none → q1.itn i1 0 h' → q2.itn i2 0 h' → Inv X pins σ H { s with heap := h' } → (∀ c ∈ [z, TI, TO, i1, i2], FpOk X pins H c) → Q (.ref z) { s with heap := h' }) :
    wpAny (model X.prog X.w) X.A (call (.type "zip") [u1, u2]) Q E s := by
  obtain ⟨o1, p1, B1, hp1, hb1⟩ := Src.begins I h1 hv r1
  obtain ⟨o2, p2, B2, hp2, hb2⟩ := Src.begins I h2 hw r2
  have l1 := Src.lt I h1
  have l2 := Src.lt I h2
  refine zip_begins2 B1 B2 hp1 hp2 fun h' hz hTI hTO g1 g2 hsz hk => ?_
  refine h h' _ _ _ _ _ (zipSep l1 l2) (fun z => Nat.lt_irrefl _ (l1 _ z)) (fun z => absurd (l2 _ z) (Nat.not_lt.mpr (Nat.le_add_right _ _))) hz hTI hTO (hb1 _ _ g1) (hb2 _ _ g2) (I.kept (t' := s.toks) hk) fun c hc => ?_
  have le : s.heap.objs.size ≤ c := by
    have e' : c = s.heap.objs.size + 4 ∨ c = s.heap.objs.size + 2 ∨ c = s.heap.objs.size + 3 ∨ c = s.heap.objs.size ∨ c = s.heap.objs.size + 1 := by simpa using hc
    rcases e' with z | z | z | z | z <;> rw [z] <;> first | exact Nat.le_add_right _ _ | exact Nat.le_refl _
  exact I.fpOk le (I.hok.fresh le)
theorem pi_zz {X : Cx} {e e2 : Expr} {ta : TA} {p pos tpos : Pos} {elts : List Expr} {kk : Nat} (hg : Gl X "zip") (hm : X.mg "zip" = none) (ha : PA X [e, e2] ta)
    (hs : starEach [e, e2] X.env = (false, eval e X.env) :: starEach [e2] X.env) (hpl : (backTo pos (starEach [e2] X.env)).any (·.1) = false) :
    PI X (.Tuple elts kk tpos) (.Call (.Name "zip" p) [e, e2] [] pos) (iZz X.K ta) := by
  refine ⟨fun pins s σ H R I h => Call_ (ld_blt I hg hm boot_zip (PyProof.Rows.callWith_type1 (thn (ha.run pos pins s σ H _ I h) fun us s1 ⟨vs, H1, I1, r1, q1⟩ => ?_) hs hpl))⟩
  obtain ⟨v, w, p1, p2, xs, ys, ex, hv, hw, h1, h2, hr⟩ := q1
  subst ex
  cases r1 with
  | cons r rr =>
    cases rr with
    | cons r' rr =>
      cases rr
      exact zip_made I1 r r' hv hw h1 h2 fun h' z TI TO i1 i2 D n1 n2 hz hTI hTO g1 g2 I2 fp => wpAny_pyIter_zip hz ⟨z, _, _, _, H1, rfl, I2, turn_zz D n1 n2, ⟨hz, hTI, ⟨_, _, hTO⟩, g1, g2⟩, fp, hr⟩
end LB

namespace LB
open PySem L2 PyProof.Rows

/-! ### where an item goes: names, tuples of names -/
mutual
inductive Tg where
  | nm (i : Nat) | tp (ts : Tgs)
inductive Tgs where
  | nil | cons (t : Tg) (ts : Tgs)
end
mutual
def Tg.slots : Tg → List Nat
  | .nm i => [i]
  | .tp ts => ts.slots
def Tgs.slots : Tgs → List Nat
  | .nil => []
  | .cons t ts => t.slots ++ ts.slots
end
def tupOf : D → Option (List D)
  | .tup ds => some ds
  | .ktp ds => some ds
  | _ => none
/-- what can be unpacked -/
def seqOf : D → Option (List D)
  | .lst ds => some ds
  | d => tupOf d
mutual
def bindT : Tg → D → List Sl → Option (List Sl)
  | .nm i, d, ρ => some (ρ.set i (.va d))
  | .tp ts, d, ρ => match seqOf d with
    | some ds => bindTs ts ds ρ
    | none => none
def bindTs : Tgs → List D → List Sl → Option (List Sl)
  | .nil, [], ρ => some ρ
  | .cons t ts, d :: ds, ρ => match bindT t d ρ with
    | some ρ' => bindTs ts ds ρ'
    | none => none
  | _, _, _ => none
end
section
variable {Z : Stc} {Fo : Hp} {W : WX} {g g' : Gh} {m m' : Mst} {σ : L2.St} {H : Hp} {N N' : Nat} {X : Cx}
theorem Good.setv {i : Nat} {v : V} {d : D} (G : Good Z Fo g m σ H) (r : DV Z g.G g.μ m.S.length d v) : Good Z Fo g { m with ρ := m.ρ.set i (.va d) } (σ.set i (some v)) H := by
  refine ⟨G.s, by simp [G.len], fun j s e => ?_⟩
  by_cases z : i = j
  · subst z
    have e : (m.ρ.set i (.va d))[i]? = some s := e
    have lt : i < m.ρ.length := by
      have q := (List.getElem?_eq_some_iff.mp e).1
      simpa using q
    rw [List.getElem?_set_self lt] at e
    cases e
    exact ⟨v, List.getElem?_set_self (by rw [← G.len]; exact lt), r⟩
  · have e : (m.ρ.set i (.va d))[j]? = some s := e
    rw [List.getElem?_set_ne z] at e
    have x := G.sl j s e
    cases s with
    | un => trivial
    | va d' => obtain ⟨v', q1, q2⟩ := x; exact ⟨v', by rw [List.getElem?_set_ne z]; exact q1, q2⟩
    | own o => obtain ⟨a, h, q1, q2, q3, q4⟩ := x; exact ⟨a, h, by rw [List.getElem?_set_ne z]; exact q1, q2, q3, q4⟩
def gT (Z : Stc) (Fo : Hp) (t : Tg) : TG := fun v σ H Q => ∃ g m d ρ', Good Z Fo g m σ H ∧ DV Z g.G g.μ m.S.length d v ∧ bindT t d m.ρ = some ρ' ∧ ∀ σ', Good Z Fo g { m with ρ := ρ' } σ' H → (∀ j, j ∉ t.slots → σ'[j]? = σ[j]?) → σ'.length = σ.length → Q σ' H
def gTs (Z : Stc) (Fo : Hp) (t : Tgs) : TGs := fun vs σ H Q => ∃ g m ds ρ', Good Z Fo g m σ H ∧ DVs Z g.G g.μ m.S.length ds vs ∧ bindTs t ds m.ρ = some ρ' ∧ ∀ σ', Good Z Fo g { m with ρ := ρ' } σ' H → (∀ j, j ∉ t.slots → σ'[j]? = σ[j]?) → σ'.length = σ.length → Q σ' H
theorem pg_imp {tg : Expr} {t t' : TG} (h : PG X tg t) (q : ∀ v σ H Q, t' v σ H Q → t v σ H Q) : PG X tg t' := ⟨fun pins s σ H v u Q I r k => h.run pins s σ H v u Q I r (q _ _ _ _ k)⟩
theorem pgs_imp {tg : List Expr} {t t' : TGs} (h : PGs X tg t) (q : ∀ v σ H Q, t' v σ H Q → t v σ H Q) : PGs X tg t' := ⟨fun pins s σ H v u Q I r k => h.run pins s σ H v u Q I r (q _ _ _ _ k)⟩
theorem dg_nm {tg : Expr} {i : Nat} (h : PG X tg (gName i)) : PG X tg (gT Z Fo (.nm i)) := pg_imp h fun v σ H Q ⟨g, m, d, ρ', G, r, e, q⟩ => by
  cases e
  exact q _ (G.setv r) (fun j hj => List.getElem?_set_ne (fun z => hj (by rw [z]; exact List.mem_singleton.mpr rfl))) (by simp)
theorem dgs_nil : PGs X [] (gTs Z Fo .nil) := pgs_imp pgs_nil fun v σ H Q ⟨g, m, d, ρ', G, r, e, q⟩ => by
  cases d with
  | cons _ _ => simp [bindTs] at e
  | nil =>
    cases r
    simp only [bindTs, Option.some.injEq] at e
    subst e
    exact ⟨rfl, q σ G (fun _ _ => rfl) rfl⟩
theorem dgs_cons {e : Expr} {es : List Expr} {t : Tg} {ts : Tgs} (h1 : PG X e (gT Z Fo t)) (h2 : PGs X es (gTs Z Fo ts)) (hs : (assignEach (e :: es) X.env).map (·.2) = assign e X.env :: (assignEach es X.env).map (·.2)) : PGs X (e :: es) (gTs Z Fo (.cons t ts)) :=
  pgs_imp (pgs_cons h1 h2 hs) fun v σ H Q ⟨g, m, d, ρ', G, r, e, q⟩ => by
    cases d with
    | nil => simp [bindTs] at e
    | cons d ds =>
      cases r with
      | @cons _ v _ vs r1 r2 =>
        simp only [bindTs] at e
        cases e1 : bindT t d m.ρ with
        | none => rw [e1] at e; cases e
        | some ρ1 =>
          rw [e1] at e
          refine ⟨v, vs, rfl, g, m, d, ρ1, G, r1, e1, fun σ1 G1 k1 l1 => ⟨g, _, ds, ρ', G1, r2, e, fun σ2 G2 k2 l2 => q σ2 G2 (fun j hj => ?_) (l2.trans l1)⟩⟩
          have hj' : j ∉ t.slots ++ ts.slots := hj
          rw [List.mem_append, not_or] at hj'
          exact (k2 j hj'.2).trans (k1 j hj'.1)
theorem bindTs_len : ∀ {ts : Tgs} {ds : List D} {ρ ρ' : List Sl}, bindTs ts ds ρ = some ρ' → ∀ {n : Nat}, (Tgs.rec (motive_1 := fun _ => Unit) (motive_2 := fun _ => Nat) (fun _ => ()) (fun _ _ => ()) 0 (fun _ _ _ n => n + 1) ts : Nat) = n → ds.length = n
  | .nil, [], _, _, _, _, e => e
  | .cons t ts, d :: ds, ρ, ρ', h, n, e => by
    simp only [bindTs] at h
    cases e1 : bindT t d ρ with
    | none => rw [e1] at h; cases h
    | some ρ1 =>
      rw [e1] at h
      subst e
      rw [List.length_cons, bindTs_len h rfl]
  | .nil, _ :: _, _, _, h, _, _ => by simp [bindTs] at h
  | .cons _ _, [], _, _, h, _, _ => by simp [bindTs] at h
def Tgs.len : Tgs → Nat
  | .nil => 0
  | .cons _ ts => ts.len + 1
theorem bindTs_len' : ∀ {ts : Tgs} {ds : List D} {ρ ρ' : List Sl}, bindTs ts ds ρ = some ρ' → ds.length = ts.len
  | .nil, [], _, _, _ => rfl
  | .cons t ts, d :: ds, ρ, ρ', h => by
    simp only [bindTs] at h
    cases e1 : bindT t d ρ with
    | none => rw [e1] at h; cases h
    | some ρ1 =>
      rw [e1] at h
      rw [List.length_cons, bindTs_len' h]
      rfl
  | .nil, _ :: _, _, _, h => by simp [bindTs] at h
  | .cons _ _, [], _, _, h => by simp [bindTs] at h
theorem tup_at {d : D} {ds : List D} {v : V} (h : tupOf d = some ds) (G : Good Z Fo g m σ H) (r : DV Z g.G g.μ m.S.length d v) : ∃ a vs, v = .ref a ∧ SqT Z.K H a vs ∧ DVs Z g.G g.μ m.S.length ds vs := by
  cases d with
  | tup ds' => cases h; obtain ⟨a, vs, e, q, _, r'⟩ := PV.tup G (.inl r); exact ⟨a, vs, e, q, r'⟩
  | ktp ds' => cases h; obtain ⟨a, vs, e, q, r'⟩ := PV.ktp G (.inl r); exact ⟨a, vs, e, q, r'⟩
  | _ => cases h
theorem dg_tp {es : List Expr} {k n : Nat} {pos : Pos} {ts : Tgs} (hK : X.K = Z.K) (hc : X.calm = true) (h : PGs X es (gTs Z Fo ts)) (hl : ts.len = n) (hn : (assignEach es X.env).length = n) (hst : (assignEach es X.env).findIdx? (·.1) = none) : PG X (.Tuple es k pos) (gT Z Fo (.tp ts)) := by
  have ht : PG X (.Tuple es k pos) (gTup X.K n (gTs Z Fo ts)) := pg_tup hc h hn hst
  have hl' : PG X (.Tuple es k pos) (gLst X.K n (gTs Z Fo ts)) := pg_lst hc h hn hst
  refine ⟨fun pins s σ H v u Q I rv ⟨g, m, d, ρ', G, r, e, q⟩ => ?_⟩
  simp only [bindT] at e
  cases e1 : seqOf d with
  | none => rw [e1] at e; cases e
  | some ds =>
    rw [e1] at e
    have tp : tupOf d = some ds → gTup X.K n (gTs Z Fo ts) v σ H Q := fun z => by
      obtain ⟨a, vs, rfl, sq, rs⟩ := tup_at z G r
      exact ⟨a, vs, rfl, hK ▸ sq, by rw [← rs.length, bindTs_len' e, hl], g, m, ds, ρ', G, rs, e, q⟩
    cases d with
    | tup ds' => exact ht.run pins s σ H v u Q I rv (tp e1)
    | ktp ds' => exact ht.run pins s σ H v u Q I rv (tp e1)
    | lst ds' =>
      cases e1
      obtain ⟨a, vs, rfl, sq, rs⟩ := PV.lst G (.inl r)
      exact hl'.run pins s σ H _ u Q I rv ⟨a, vs, rfl, .inl sq, by rw [← rs.length, bindTs_len' e, hl], g, m, ds, ρ', G, rs, e, q⟩
    | _ => cases e1

/-! ### what is handed out -/
structure Hands (Z : Stc) (g : Gh) (N : Nat) (ds : List D) (J : It) : Prop where
  go : ∀ Fo i g' m' σ' H' d, Good Z Fo g' m' σ' H' → Mor g.G g'.G g.μ g'.μ N m'.S.length → ds[i]? = some d → J.go i H' ∧ ∀ x H2, J.yld i H' x H2 → ∃ g2, Good Z Fo g2 m' σ' H2 ∧ Ext Fo g' m'.S.length g2 m'.S.length ∧ DV Z g2.G g2.μ m'.S.length d x
  stop : ∀ Fo g' m' σ' H', Good Z Fo g' m' σ' H' → Mor g.G g'.G g.μ g'.μ N m'.S.length → J.stop ds.length H'
abbrev RI (Z : Stc) : Gh → Nat → Hp → List D → It → Prop := fun g N _ ds J => Hands Z g N ds J
def tI (Z : Stc) (Fo : Hp) (W : WX) (f : Mo (List D)) : TI := fun σ H R => ∃ g m, Good Z Fo g m σ H ∧ Pg Z Fo W (RI Z) g m.S.length σ R (f m)
theorem pi_imp {tg e : Expr} {t t' : TI} (h : PI X tg e t) (q : ∀ σ H R, t' σ H R → t σ H R) : PI X tg e t' := ⟨fun pins s σ H R I k => h.run pins s σ H R I (q _ _ _ k)⟩
theorem hands_tup {d : D} {ds : List D} {vs : List V} {a : Addr} (r : DV Z g.G g.μ N d (.ref a)) (h : tupOf d = some ds) : Hands Z g N ds (Itt Z.K a) := by
  constructor
  · intro Fo i g' m' σ' H' x G M e
    obtain ⟨b, ws, eb, q, rs⟩ := tup_at h G (r.mor M)
    cases eb
    obtain ⟨y, ey, ry⟩ := rs.get e
    exact ⟨⟨ws, y, q, ey⟩, fun z H2 ⟨e1, e2⟩ => by
      subst e1
      have e3 := e2 ws q
      rw [ey] at e3
      cases e3
      exact ⟨g', G, .rfl', ry⟩⟩
  · intro Fo g' m' σ' H' G M
    obtain ⟨b, ws, eb, q, rs⟩ := tup_at h G (r.mor M)
    cases eb
    exact ⟨ws, q, by rw [rs.length]; exact Nat.le_refl _⟩
theorem hands_lst {ds : List D} {a : Addr} (r : DV Z g.G g.μ N (.lst ds) (.ref a)) : Hands Z g N ds (Itl Z.K a) := by
  have at' : ∀ {Fo : Hp} {g' : Gh} {m' : Mst} {σ' : L2.St} {H' : Hp}, Good Z Fo g' m' σ' H' → Mor g.G g'.G g.μ g'.μ N m'.S.length → ∃ ws, SqL Z.K H' a ws ∧ DVs Z g'.G g'.μ m'.S.length ds ws := fun G M => by
    obtain ⟨b, ws, eb, q, rs⟩ := PV.lst G (.inl (r.mor M))
    cases eb
    exact ⟨ws, .inl q, rs⟩
  constructor
  · intro Fo i g' m' σ' H' x G M e
    obtain ⟨ws, q, rs⟩ := at' G M
    obtain ⟨y, ey, ry⟩ := rs.get e
    exact ⟨⟨ws, y, q, ey⟩, fun z H2 ⟨e1, e2⟩ => by
      subst e1
      have e3 := e2 ws q
      rw [ey] at e3
      cases e3
      exact ⟨g', G, .rfl', ry⟩⟩
  · intro Fo g' m' σ' H' G M
    obtain ⟨ws, q, rs⟩ := at' G M
    exact ⟨ws, q, by rw [rs.length]; exact Nat.le_refl _⟩
theorem signs_at {x : Str} {i : Nat} {d : D} (h : (signs x)[i]? = some d) : ∃ c, x.cps[i]? = some c ∧ d = .str ⟨#[c]⟩ := by
  unfold signs at h
  rw [List.getElem?_map, Array.getElem?_toList] at h
  cases e : x.cps[i]? with
  | none => rw [e] at h; cases h
  | some c => rw [e] at h; cases h; exact ⟨c, rfl, rfl⟩
theorem signs_len (x : Str) : (signs x).length = x.cps.size := by simp [signs]
theorem hands_str {x : Str} : Hands Z g N (signs x) (Its x) := by
  constructor
  · intro Fo i g' m' σ' H' d G M e
    obtain ⟨c, ec, rfl⟩ := signs_at e
    exact ⟨(Array.getElem?_eq_some_iff.mp ec).1, fun z H2 ⟨e1, c', e2, e3⟩ => by
      subst e1 e3
      rw [ec] at e2
      cases e2
      exact ⟨g', G, .rfl', .str _⟩⟩
  · intro Fo g' m' σ' H' G M
    rw [signs_len]
    exact Nat.le_refl _
/-- over a list, a tuple, a text -/
def seqM (f : Mo D) : Mo (List D) := f.bind fun d => .opt (itemsD d)
theorem di_seq {tg e : Expr} {f : Mo D} (hK : X.K = Z.K) (h : PE X e (tE Z Fo W f)) : PI X tg e (tI Z Fo W (seqM f)) := by
  have hl := pi_list (tg := tg) h
  have ht := pi_tup (tg := tg) h
  have hs := pi_str (tg := tg) h
  refine ⟨fun pins s σ H R I ⟨g, m, G, k⟩ => ?_⟩
  change Pg Z Fo W (RI Z) g m.S.length σ R ((f m).bind _) at k
  cases e : f m with
  | no => rw [e] at k; exact k.elim
  | exc x m' =>
    rw [e] at k
    refine hl.run pins s σ H R I ⟨g, m, G, ?_⟩
    rw [e]
    exact k
  | ok d m' =>
    rw [e] at k
    simp only [Res.bind_ok] at k
    cases e2 : itemsD d with
    | none => rw [e2] at k; exact k.elim
    | some ds =>
      rw [e2] at k
      have k' : Pg Z Fo W (RI Z) g m.S.length σ R (.ok ds m') := k
      have tup : tupOf d = some ds → wpAny (model X.prog X.w) X.A (eval _ X.env) (fun v s1 => wpAny (model X.prog X.w) X.A (pyIter v) (PIE X pins σ tg R) X.xe s1) X.xe s := fun t => by
        refine ht.run pins s σ H R I ⟨g, m, G, ?_⟩
        rw [e]
        intro v H' g' G' E r
        obtain ⟨a, vs, rfl, q, rs⟩ := tup_at t G' r
        exact ⟨a, rfl, ⟨vs, hK ▸ q⟩, k' _ _ g' G' E (hK ▸ hands_tup (vs := vs) r t)⟩
      cases d with
      | tup ds' => cases e2; exact tup rfl
      | ktp ds' => cases e2; exact tup rfl
      | lst ds' =>
        cases e2
        refine hl.run pins s σ H R I ⟨g, m, G, ?_⟩
        rw [e]
        intro v H' g' G' E r
        obtain ⟨a, vs, rfl, q, rs⟩ := PV.lst G' (.inl r)
        exact ⟨a, rfl, ⟨vs, .inl q⟩, k' _ _ g' G' E (hK ▸ hands_lst r)⟩
      | str x =>
        cases e2
        refine hs.run pins s σ H R I ⟨g, m, G, ?_⟩
        rw [e]
        intro v H' g' G' E r
        cases r
        exact ⟨x, rfl, k' _ _ g' G' E hands_str⟩
      | _ => cases e2
/-! ### range -/
def upTo (lo c : Int) (n : Nat) : List D := (List.range n).map fun (i : Nat) => .int (lo + (i : Int) * c)
theorem upTo_len (lo c : Int) (n : Nat) : (upTo lo c n).length = n := by simp [upTo]
theorem upTo_at {lo c : Int} {n i : Nat} {d : D} (h : (upTo lo c n)[i]? = some d) : i < n ∧ d = .int (lo + (i : Int) * c) := by
  have lt : i < n := by simpa [upTo] using (List.getElem?_eq_some_iff.mp h).1
  refine ⟨lt, ?_⟩
  unfold upTo at h
  rw [List.getElem?_map, List.getElem?_range lt] at h
  cases h
  rfl
def small62 (i : Int) : Bool := decide (-(2 ^ 62) ≤ i) && decide (i < 2 ^ 62)
theorem small62_spec {i : Int} (h : small62 i = true) : -(2 ^ 62) ≤ i ∧ i < 2 ^ 62 := by simpa [small62] using h
/-- 1: a range(j); 2: range(i, j); 3: range(i, j, -1) -/
def rngD : List D → Option (List D)
  | [.int j] => if small62 j then some (upTo 0 1 j.toNat) else none
  | [.int i, .int j] => if small62 i && small62 j then some (upTo i 1 (j - i).toNat) else none
  | [.int i, .int j, .int c] => if small62 i && small62 j && decide (c = -1) then some (upTo i (-1) (i - j).toNat) else if small62 i && small62 j && decide (0 < c ∧ c < 2 ^ 30) && Builtin.Range.small i j c then some (upTo i c (Builtin.Range.rangeSize i j c).toNat) else none
  | _ => none
theorem hands_rng {lo : Int} {n : Nat} : Hands Z g N (upTo lo 1 n) (Itr lo n) := by
  constructor
  · intro Fo i g' m' σ' H' d G M e
    obtain ⟨lt, rfl⟩ := upTo_at e
    exact ⟨lt, fun z H2 ⟨e1, e2⟩ => by subst e1 e2; exact ⟨g', G, .rfl', by rw [Int.mul_one]; exact .int _⟩⟩
  · intro Fo g' m' σ' H' G M
    rw [upTo_len]
    exact Nat.le_refl _
theorem hands_rngC {lo c : Int} {n : Nat} : Hands Z g N (upTo lo c n) (Itc lo c n) := by
  constructor
  · intro Fo i g' m' σ' H' d G M e
    obtain ⟨lt, rfl⟩ := upTo_at e
    exact ⟨lt, fun z H2 ⟨e1, e2⟩ => by subst e1 e2; exact ⟨g', G, .rfl', .int _⟩⟩
  · intro Fo g' m' σ' H' G M
    rw [upTo_len]
    exact Nat.le_refl _
def rngM (f : Mo (List D)) : Mo (List D) := f.bind fun ds => .opt (rngD ds)
section
variable {tg a b c : Expr} {f : Mo (List D)} {p pos : Pos}
theorem rng_go {σ : L2.St} {H : Hp} {R : It → Hp → Prop} {t : List V → Hp → Prop} (n : Nat) (h : tI Z Fo W (rngM f) σ H R) (hl : ∀ m ds m', f m = .ok ds m' → ds.length = n)
    (k : ∀ vs ds H' g' m' out, Good Z Fo g' m' σ H' → DVs Z g'.G g'.μ m'.S.length ds vs → ds.length = n → rngD ds = some out → (∀ J, (∀ g N, Hands Z g N out J) → R J H') → t vs H') : tL Z Fo W f σ H t := by
  obtain ⟨g, m, G, h⟩ := h
  refine ⟨g, m, G, (Pg.bind (R := RDs Z) h).imp fun vs H' ⟨ds, g', m', G', E, r, e, q⟩ => ?_⟩
  cases e1 : rngD ds with
  | none => simp only [e1] at q; exact q.elim
  | some out =>
    simp only [e1] at q
    exact k vs ds H' g' m' out G' r (hl _ _ _ e) e1 fun J hJ => q J H' g' G' .rfl' (hJ _ _)
theorem di_rng1 (hg : Gl X "range") (hm : X.mg "range" = none) (hs : starEach [a] X.env = [(false, eval a X.env)]) (h : PA X [a] (tL Z Fo W f)) (hl : ∀ m ds m', f m = .ok ds m' → ds.length = 1) : PI X tg (.Call (.Name "range" p) [a] [] pos) (tI Z Fo W (rngM f)) :=
  pi_imp (pi_range1 hg hm h hs) fun σ H R k => rng_go 1 k hl fun vs ds H' g' m' out G' r el e q => by
    match ds, el, r, e with
    | [.int j], _, .cons (.int _) .nil, e =>
      simp only [rngD] at e
      split at e
      · rename_i hj
        obtain ⟨h1, h2⟩ := small62_spec hj
        cases e
        exact ⟨j, rfl, h1, h2, q _ fun _ _ => hands_rng⟩
      · cases e
theorem di_rng2 (hg : Gl X "range") (hm : X.mg "range" = none) (hs : starEach [a, b] X.env = [(false, eval a X.env), (false, eval b X.env)]) (hs2 : starEach [b] X.env = [(false, eval b X.env)]) (h : PA X [a, b] (tL Z Fo W f)) (hl : ∀ m ds m', f m = .ok ds m' → ds.length = 2) : PI X tg (.Call (.Name "range" p) [a, b] [] pos) (tI Z Fo W (rngM f)) :=
  pi_imp (pi_range2 hg hm h hs hs2) fun σ H R k => rng_go 2 k hl fun vs ds H' g' m' out G' r el e q => by
    match ds, el, r, e with
    | [.int i, .int j], _, .cons (.int _) (.cons (.int _) .nil), e =>
      simp only [rngD] at e
      split at e
      · rename_i hj
        rw [Bool.and_eq_true] at hj
        obtain ⟨h1, h2⟩ := small62_spec hj.1
        obtain ⟨h3, h4⟩ := small62_spec hj.2
        cases e
        exact ⟨i, j, rfl, ⟨h1, h2, h3, h4⟩, q _ fun _ _ => hands_rng⟩
      · cases e
theorem di_rng3 (hg : Gl X "range") (hm : X.mg "range" = none) (hs : starEach [a, b, c] X.env = (false, eval a X.env) :: starEach [b, c] X.env) (hpl : (backTo pos (starEach [b, c] X.env)).any (·.1) = false) (h : PA X [a, b, c] (tL Z Fo W f)) (hl : ∀ m ds m', f m = .ok ds m' → ds.length = 3) : PI X tg (.Call (.Name "range" p) [a, b, c] [] pos) (tI Z Fo W (rngM f)) :=
  pi_imp (pi_range3 hg hm h hs hpl) fun σ H R k => rng_go 3 k hl fun vs ds H' g' m' out G' r el e q => by
    match ds, el, r, e with
    | [.int i, .int j, .int c], _, .cons (.int _) (.cons (.int _) (.cons (.int _) .nil)), e =>
      simp only [rngD] at e
      split at e
      · rename_i hj
        simp only [Bool.and_eq_true, decide_eq_true_eq] at hj
        obtain ⟨⟨j1, j2⟩, rfl⟩ := hj
        obtain ⟨h1, h2⟩ := small62_spec j1
        obtain ⟨h3, h4⟩ := small62_spec j2
        cases e
        exact ⟨i, j, -1, _, rfl, RgC.neg h1 h2 h3 h4, q _ fun _ _ => hands_rngC⟩
      · split at e
        · rename_i hj
          simp only [Bool.and_eq_true, decide_eq_true_eq] at hj
          obtain ⟨⟨⟨j1, j2⟩, j3, j4⟩, j5⟩ := hj
          cases e
          refine ⟨i, j, c, _, rfl, ⟨by omega, by omega, j5, ?_⟩, q _ fun _ _ => hands_rngC⟩
          refine (Int.toNat_of_nonneg ?_).symm
          unfold Builtin.Range.rangeSize
          split <;> (try split) <;> first | omega | skip
          all_goals exact Int.add_nonneg (Int.ediv_nonneg (by omega) (by omega)) (by omega)
        · cases e
end
end
end LB

namespace LB
open PySem L2 PyProof.Rows
section
variable {Z : Stc} {Fo : Hp} {W : WX} {g g' : Gh} {m m' : Mst} {σ : L2.St} {H : Hp} {N N' : Nat} {X : Cx}

/-! ### enumerate, zip -/
def enumF (k : Nat) : List D → List D
  | [] => []
  | d :: r => .tup [.int (k : Nat), d] :: enumF (k + 1) r
def zipF : List D → List D → List D
  | a :: r, b :: s => .tup [a, b] :: zipF r s
  | _, _ => []
theorem enumF_len : ∀ (k : Nat) (ds : List D), (enumF k ds).length = ds.length
  | _, [] => rfl
  | k, _ :: r => by rw [enumF, List.length_cons, List.length_cons, enumF_len]
theorem enumF_at : ∀ {k : Nat} {ds : List D} {i : Nat} {d : D}, (enumF k ds)[i]? = some d → ∃ x, ds[i]? = some x ∧ d = .tup [.int ((k + i : Nat) : Int), x]
  | _, [], _, _, h => by simp [enumF] at h
  | k, a :: r, 0, _, h => by simp [enumF] at h; exact ⟨a, rfl, by rw [← h]; rfl⟩
  | k, a :: r, i + 1, d, h => by
    have h' : (enumF (k + 1) r)[i]? = some d := by simpa [enumF] using h
    obtain ⟨x, e, q⟩ := enumF_at h'
    exact ⟨x, by simpa using e, by rw [q]; congr 4; omega⟩
theorem zipF_len : ∀ (a b : List D), (zipF a b).length = min a.length b.length
  | [], _ => by simp [zipF]
  | _ :: _, [] => by simp [zipF]
  | _ :: r, _ :: s => by rw [zipF, List.length_cons, List.length_cons, List.length_cons, zipF_len]; omega
theorem zipF_at : ∀ {a b : List D} {i : Nat} {d : D}, (zipF a b)[i]? = some d → ∃ x y, a[i]? = some x ∧ b[i]? = some y ∧ d = .tup [x, y]
  | [], _, _, _, h => by simp [zipF] at h
  | _ :: _, [], _, _, h => by simp [zipF] at h
  | x :: r, y :: s, 0, _, h => by simp [zipF] at h; exact ⟨x, y, rfl, rfl, h.symm⟩
  | _ :: r, _ :: s, i + 1, d, h => by
    have h' : (zipF r s)[i]? = some d := by simpa [zipF] using h
    obtain ⟨x, y, e1, e2, q⟩ := zipF_at h'
    exact ⟨x, y, by simpa using e1, by simpa using e2, q⟩
/-- a datum whose items can be gone through -/
theorem src_at {d : D} {ds : List D} {v : V} (h : itemsD d = some ds) (r : DV Z g.G g.μ N d v) : ∃ q : Src, q.val v ∧ ∀ {Fo : Hp} {g' : Gh} {m' : Mst} {σ' : L2.St} {H' : Hp}, Good Z Fo g' m' σ' H' → Mor g.G g'.G g.μ g'.μ N m'.S.length → ∃ vs, q.has Z.K H' vs ∧ DVs Z g'.G g'.μ m'.S.length ds vs := by
  have tup : ∀ ds', tupOf d = some ds' → ∃ a, v = .ref a ∧ ∀ {Fo : Hp} {g' : Gh} {m' : Mst} {σ' : L2.St} {H' : Hp}, Good Z Fo g' m' σ' H' → Mor g.G g'.G g.μ g'.μ N m'.S.length → ∃ vs, SqT Z.K H' a vs ∧ DVs Z g'.G g'.μ m'.S.length ds' vs := fun ds' t => by
    have ev : ∃ a, v = .ref a := by
      cases d with
      | tup _ => cases r; exact ⟨_, rfl⟩
      | ktp _ => cases r; exact ⟨_, rfl⟩
      | _ => cases t
    obtain ⟨a, rfl⟩ := ev
    refine ⟨a, rfl, fun G M => ?_⟩
    obtain ⟨b, vs, eb, q, rs⟩ := tup_at t G (r.mor M)
    cases eb
    exact ⟨vs, q, rs⟩
  cases d with
  | tup ds' => cases h; obtain ⟨a, rfl, k⟩ := tup _ rfl; exact ⟨.t a, rfl, fun G M => k G M⟩
  | ktp ds' => cases h; obtain ⟨a, rfl, k⟩ := tup _ rfl; exact ⟨.t a, rfl, fun G M => k G M⟩
  | lst ds' =>
    cases h
    have ev : ∃ a, v = .ref a := by cases r; exact ⟨_, rfl⟩
    obtain ⟨a, rfl⟩ := ev
    refine ⟨.l a, rfl, fun G M => ?_⟩
    obtain ⟨b, vs, eb, q, rs⟩ := PV.lst G (.inl (r.mor M))
    cases eb
    exact ⟨vs, .inl q, rs⟩
  | str x =>
    cases h
    cases r
    refine ⟨.s x, rfl, fun G M => ⟨signsV x, rfl, ?_⟩⟩
    unfold signs signsV
    generalize x.cps.toList = l
    induction l with
    | nil => exact .nil
    | cons a r ih => exact .cons (.str _) ih
  | _ => cases h
theorem dv_pair {T : Addr} {x y : V} {a b : D} (e : g.G T = some (.tup [x, y])) (ra : DV Z g.G g.μ N a x) (rb : DV Z g.G g.μ N b y) : DV Z g.G g.μ N (.tup [a, b]) (.ref T) := .tup e (.cons ra (.cons rb .nil))
theorem hands_en {q : Src} {ds : List D} (h : ∀ {Fo : Hp} {g' : Gh} {m' : Mst} {σ' : L2.St} {H' : Hp}, Good Z Fo g' m' σ' H' → Mor g.G g'.G g.μ g'.μ N m'.S.length → ∃ vs, q.has Z.K H' vs ∧ DVs Z g'.G g'.μ m'.S.length ds vs) : Hands Z g N (enumF 0 ds) (ItE Z.K q) := by
  constructor
  · intro Fo i g' m' σ' H' d G M e
    obtain ⟨vs, q1, rs⟩ := h G M
    obtain ⟨x, ex, rfl⟩ := enumF_at e
    obtain ⟨y, ey, ry⟩ := rs.get ex
    refine ⟨⟨vs, y, q1, ey⟩, fun z H2 ⟨T, y', e1, n, e2, e3⟩ => ?_⟩
    subst e1 e2
    have e4 := e3 vs q1
    rw [ey] at e4
    cases e4
    obtain ⟨G2, E2⟩ := G.laid (h := .tup [.int (i : Nat), y]) n
    refine ⟨_, G2, E2, dv_pair (show upd g'.G T _ T = some _ from upd_same) ?_ (ry.ext E2)⟩
    rw [Nat.zero_add]
    exact .int _
  · intro Fo g' m' σ' H' G M
    obtain ⟨vs, q1, rs⟩ := h G M
    exact ⟨vs, q1, by rw [enumF_len, rs.length]⟩
theorem hands_zz {q1 q2 : Src} {ds es : List D} (h1 : ∀ {Fo : Hp} {g' : Gh} {m' : Mst} {σ' : L2.St} {H' : Hp}, Good Z Fo g' m' σ' H' → Mor g.G g'.G g.μ g'.μ N m'.S.length → ∃ vs, q1.has Z.K H' vs ∧ DVs Z g'.G g'.μ m'.S.length ds vs)
    (h2 : ∀ {Fo : Hp} {g' : Gh} {m' : Mst} {σ' : L2.St} {H' : Hp}, Good Z Fo g' m' σ' H' → Mor g.G g'.G g.μ g'.μ N m'.S.length → ∃ vs, q2.has Z.K H' vs ∧ DVs Z g'.G g'.μ m'.S.length es vs) : Hands Z g N (zipF ds es) (ItZ Z.K q1 q2) := by
  constructor
  · intro Fo i g' m' σ' H' d G M e
    obtain ⟨vs, k1, rs⟩ := h1 G M
    obtain ⟨ws, k2, ss⟩ := h2 G M
    obtain ⟨x, y, ex, ey, rfl⟩ := zipF_at e
    obtain ⟨x', ex', rx⟩ := rs.get ex
    obtain ⟨y', ey', ry⟩ := ss.get ey
    refine ⟨⟨vs, ws, x', y', k1, k2, ex', ey'⟩, fun z H2 ⟨T, x2, y2, e1, n, e2, e3, e4⟩ => ?_⟩
    subst e1 e2
    have e5 := e3 vs k1
    rw [ex'] at e5
    cases e5
    have e6 := e4 ws k2
    rw [ey'] at e6
    cases e6
    obtain ⟨G2, E2⟩ := G.laid (h := .tup [x', y']) n
    exact ⟨_, G2, E2, dv_pair (show upd g'.G T _ T = some _ from upd_same) (rx.ext E2) (ry.ext E2)⟩
  · intro Fo g' m' σ' H' G M
    obtain ⟨vs, k1, rs⟩ := h1 G M
    obtain ⟨ws, k2, ss⟩ := h2 G M
    have l1 := rs.length
    have l2 := ss.length
    rw [zipF_len]
    exact ⟨vs, ws, k1, k2, by omega, by omega, by omega⟩
def enD : List D → Option (List D)
  | [d] => (itemsD d).map (enumF 0)
  | _ => none
def enM (f : Mo (List D)) : Mo (List D) := f.bind fun ds => .opt (enD ds)
def zzD : List D → Option (List D)
  | [a, b] => match itemsD a, itemsD b with
    | some x, some y => some (zipF x y)
    | _, _ => none
  | _ => none
def zzM (f : Mo (List D)) : Mo (List D) := f.bind fun ds => .opt (zzD ds)
section
variable {tg a b : Expr} {f : Mo (List D)} {p pos tpos : Pos} {elts : List Expr} {kk : Nat}
theorem di_en (hK : X.K = Z.K) (hg : Gl X "enumerate") (hm : X.mg "enumerate" = none) (hs : starEach [a] X.env = [(false, eval a X.env)]) (h : PA X [a] (tL Z Fo W f)) : PI X (.Tuple elts kk tpos) (.Call (.Name "enumerate" p) [a] [] pos) (tI Z Fo W (enM f)) :=
  pi_imp (pi_en hg hm h hs) fun σ H R ⟨g, m, G, h⟩ => ⟨g, m, G, (Pg.bind (R := RDs Z) h).imp fun vs H' ⟨ds, g', m', G', E, r, e, q⟩ => by
    match ds, r, q with
    | [d], .cons (v := v) r .nil, q =>
      simp only [enD] at q
      cases e1 : itemsD d with
      | none => simp only [e1, Option.map_none] at q; exact q.elim
      | some out =>
        simp only [e1, Option.map_some] at q
        obtain ⟨s, hv, k⟩ := src_at e1 r
        obtain ⟨xs, hx, _⟩ := k G' .rfl'
        exact ⟨v, s, xs, rfl, hv, hK ▸ hx, q _ _ _ G' .rfl' (hK ▸ hands_en fun G M => k G M)⟩⟩
theorem di_zz (hK : X.K = Z.K) (hg : Gl X "zip") (hm : X.mg "zip" = none) (hs : starEach [a, b] X.env = (false, eval a X.env) :: starEach [b] X.env) (hpl : (backTo pos (starEach [b] X.env)).any (·.1) = false) (h : PA X [a, b] (tL Z Fo W f)) : PI X (.Tuple elts kk tpos) (.Call (.Name "zip" p) [a, b] [] pos) (tI Z Fo W (zzM f)) :=
  pi_imp (pi_zz hg hm h hs hpl) fun σ H R ⟨g, m, G, h⟩ => ⟨g, m, G, (Pg.bind (R := RDs Z) h).imp fun vs H' ⟨ds, g', m', G', E, r, e, q⟩ => by
    match ds, r, q with
    | [d, d2], .cons (v := v) r (.cons (v := w) r2 .nil), q =>
      simp only [zzD] at q
      cases e1 : itemsD d with
      | none => simp only [e1] at q; exact q.elim
      | some out =>
        cases e2 : itemsD d2 with
        | none => simp only [e1, e2] at q; exact q.elim
        | some out2 =>
          simp only [e1, e2] at q
          obtain ⟨s, hv, k⟩ := src_at e1 r
          obtain ⟨s2, hv2, k2⟩ := src_at e2 r2
          obtain ⟨xs, hx, _⟩ := k G' .rfl'
          obtain ⟨ys, hy, _⟩ := k2 G' .rfl'
          exact ⟨v, w, s, s2, xs, ys, rfl, hv, hv2, hK ▸ hx, hK ▸ hy, q _ _ _ G' .rfl' (hK ▸ hands_zz (fun G M => k G M) fun G M => k2 G M)⟩⟩
end

/-! ### statements -/
inductive Fl where
  | nx | bk | ct | rt (d : D)
section
variable (Z : Stc) (Fo : Hp) (W : WX)
def PoS (g : Gh) (N : Nat) (E : Ends) : Res Fl → Prop
  | .ok .nx m => ∀ σ H g', Good Z Fo g' m σ H → Ext Fo g N g' m.S.length → E.nx σ H
  | .ok .bk m => ∀ σ H g', Good Z Fo g' m σ H → Ext Fo g N g' m.S.length → E.bk σ H
  | .ok .ct m => ∀ σ H g', Good Z Fo g' m σ H → Ext Fo g N g' m.S.length → E.ct σ H
  | .ok (.rt d) m => ∀ v σ H g', Good Z Fo g' m σ H → Ext Fo g N g' m.S.length → DV Z g'.G g'.μ m.S.length d v → E.rt v H
  | .exc x m => ∀ cls dd σ H g', Good Z Fo g' m σ H → Ext Fo g N g' m.S.length → ExcR Z g' m.S.length x cls dd H → W cls dd σ H
  | .no => False
def tS (f : Mo Fl) : TS := fun E σ H => ∃ g m, Good Z Fo g m σ H ∧ PoS Z Fo W g m.S.length E (f m)
end
theorem PoS.on {E : Ends} {r : Res Fl} (h : PoS Z Fo W g N E r) (e : Ext Fo g N g' N') : PoS Z Fo W g' N' E r := by
  cases r with
  | ok f m => cases f with
    | nx => exact fun s H g2 G E => h s H g2 G (e.trans E)
    | bk => exact fun s H g2 G E => h s H g2 G (e.trans E)
    | ct => exact fun s H g2 G E => h s H g2 G (e.trans E)
    | rt d => exact fun v s H g2 G E => h v s H g2 G (e.trans E)
  | exc x m => exact fun c dd s H g2 G E => h c dd s H g2 G (e.trans E)
  | no => exact h
/-- a reckoning ahead of the rest of a statement -/
theorem PoS.ahead {α β : Type} {R : Gh → Nat → Hp → α → β → Prop} {E : Ends} {r : Res α} {f : α → Mo Fl} (h : PoS Z Fo W g N E (r.bind f)) :
    Pg Z Fo W R g N σ (fun v H => ∃ d g' m', Good Z Fo g' m' σ H ∧ Ext Fo g N g' m'.S.length ∧ R g' m'.S.length H d v ∧ r = .ok d m' ∧ PoS Z Fo W g' m'.S.length E (f d m')) r := by
  cases r with
  | ok d m => exact fun v H g' G E R => ⟨d, g', m, G, E, R, rfl, PoS.on h E⟩
  | exc x m => exact fun c dd H g' G E x => h c dd σ H g' G E x
  | no => exact h
theorem PoS.go {E : Ends} {m : Mst} {σ : L2.St} {H : Hp} {N : Nat} {f : Fl} (h : PoS Z Fo W g N E (.ok f m)) (G : Good Z Fo g' m σ H) (e : Ext Fo g N g' m.S.length) : match f with
    | .nx => E.nx σ H | .bk => E.bk σ H | .ct => E.ct σ H | .rt d => ∀ v, DV Z g'.G g'.μ m.S.length d v → E.rt v H := by
  cases f with
  | nx => exact h σ H g' G e
  | bk => exact h σ H g' G e
  | ct => exact h σ H g' G e
  | rt d => exact fun v r => h v σ H g' G e r
theorem ps_imp {st : Stmt} {t t' : TS} (h : PS X st t) (q : ∀ E σ H, t' E σ H → t E σ H) : PS X st t' := ⟨fun pins s σ H E I k => h.run pins s σ H E I (q _ _ _ k)⟩
theorem pss_imp {st : List Stmt} {t t' : TS} (h : PSs X st t) (q : ∀ E σ H, t' E σ H → t E σ H) : PSs X st t' := ⟨fun pins s σ H E I k => h.run pins s σ H E I (q _ _ _ k)⟩
section
variable {st : Stmt} {sts : List Stmt} {e c : Expr} {pos : Pos} {f : Mo D} {u v : Mo Fl}
def skipM : Mo Fl := .ret .nx
def seqS (u v : Mo Fl) : Mo Fl := u.bind fun k => match k with
  | .nx => v
  | k => .ret k
/-- the ends of what stands ahead of more -/
theorem PoS.seq {E : Ends} {r : Res Fl} (h : PoS Z Fo W g N E (r.bind fun k => match k with | .nx => v | k => .ret k)) : PoS Z Fo W g N { E with nx := tS Z Fo W v E } r := by
  cases r with
  | ok k m => cases k with
    | nx => exact fun s H g' G e => ⟨g', m, G, PoS.on h e⟩
    | bk => exact h
    | ct => exact h
    | rt d => exact h
  | exc x m => exact h
  | no => exact h
theorem ds_nil : PSs X [] (tS Z Fo W skipM) := pss_imp pss_nil fun E σ H ⟨g, m, G, h⟩ => h σ H g G .rfl'
theorem ds_cons (h1 : PS X st (tS Z Fo W u)) (h2 : PSs X sts (tS Z Fo W v)) : PSs X (st :: sts) (tS Z Fo W (seqS u v)) := pss_imp (pss_cons h1 h2) fun E σ H ⟨g, m, G, h⟩ => ⟨g, m, G, PoS.seq h⟩
theorem ds_pass : PS X (.Pass pos) (tS Z Fo W skipM) := ps_imp ps_pass fun E σ H ⟨g, m, G, h⟩ => h σ H g G .rfl'
theorem ds_break : PS X (.Break pos) (tS Z Fo W (.ret .bk)) := ps_imp ps_break fun E σ H ⟨g, m, G, h⟩ => h σ H g G .rfl'
theorem ds_cont : PS X (.Continue pos) (tS Z Fo W (.ret .ct)) := ps_imp ps_continue fun E σ H ⟨g, m, G, h⟩ => h σ H g G .rfl'
theorem ds_doc {x j pos'} : PS X (.Expr (.Constant (.str x) j pos) pos') (tS Z Fo W skipM) := ps_imp ps_doc fun E σ H ⟨g, m, G, h⟩ => h σ H g G .rfl'
def retM (f : Mo D) : Mo Fl := f.bind fun d => .ret (.rt d)
theorem ds_ret (h : PE X e (tE Z Fo W f)) : PS X (.Return (some e) pos) (tS Z Fo W (retM f)) := ps_imp (ps_ret h) fun E σ H ⟨g, m, G, k⟩ => ⟨g, m, G, (PoS.ahead (R := RD Z) k).imp fun v H' ⟨d, g', m', G', _, r, _, q⟩ => q v σ H' g' G' .rfl' r⟩
theorem ds_retN : PS X (.Return none pos) (tS Z Fo W (.ret (.rt .non))) := ps_imp ps_retN fun E σ H ⟨g, m, G, h⟩ => h .non σ H g G .rfl' .non
def dropM {α : Type} (f : Mo α) : Mo Fl := f.bind fun _ => .ret .nx
theorem ds_expr (h : PE X e (tE Z Fo W f)) (hs : swapsWith e none pos.line X.env = pure false) : PS X (.Expr e pos) (tS Z Fo W (dropM f)) := ps_imp (ps_expr h hs) fun E σ H ⟨g, m, G, k⟩ => ⟨g, m, G, (PoS.ahead (R := RD Z) k).imp fun v H' ⟨d, g', m', G', _, r, _, q⟩ => q σ H' g' G' .rfl'⟩
def iffM (b : Mo Bool) (u v : Mo Fl) : Mo Fl := b.bind fun k => if k = true then u else v
theorem ds_if {b : Mo Bool} {xs ys : List Stmt} (h : PT X c (tT Z Fo W b)) (h1 : PSs X xs (tS Z Fo W u)) (h2 : PSs X ys (tS Z Fo W v)) : PS X (.If c xs ys pos) (tS Z Fo W (iffM b u v)) := ps_imp (ps_if h h1 h2) fun E σ H ⟨g, m, G, k⟩ => ⟨g, m, G, (PoS.ahead (R := RB) k).imp fun b H' ⟨d, g', m', G', _, r, _, q⟩ => by
  have r : d = b := r
  subst r
  cases d with
  | true => exact ⟨g', m', G', q⟩
  | false => exact ⟨g', m', G', q⟩⟩
/-! assignments -/
def setT (t : Tg) (d : D) : Mo Fl := fun m => match bindT t d m.ρ with
  | some ρ => .ok .nx { m with ρ := ρ }
  | none => .no
def asgM (t : Tg) (f : Mo D) : Mo Fl := f.bind fun d => setT t d
theorem ds_asg {tg : Expr} {t : Tg} (h : PE X e (tE Z Fo W f)) (ht : PG X tg (gT Z Fo t)) (hs : swapsWithSole [tg] e pos.line X.env = pure false) (hw : swappedStores [tg] e X.env = pure none) (h1 : (assignEach [tg] X.env).map (·.2) = [assign tg X.env]) : PS X (.Assign [tg] e pos) (tS Z Fo W (asgM t f)) :=
  ps_imp (ps_asg h ht hs hw h1) fun E σ H ⟨g, m, G, k⟩ => ⟨g, m, G, (PoS.ahead (R := RD Z) k).imp fun v H' ⟨d, g', m', G', _, r, _, q⟩ => by
    simp only [setT] at q
    cases e1 : bindT t d m'.ρ with
    | none => rw [e1] at q; exact q.elim
    | some ρ' =>
      rw [e1] at q
      exact ⟨g', m', d, ρ', G', r, e1, fun σ' G2 _ _ => q σ' H' g' G2 .rfl'⟩⟩
/-- a new object is given to a slot -/
def Gh.give (g : Gh) (p : Addr) (w : Ow) : Gh := { g with ow := fun b => if b = p then some w else g.ow b }
theorem Good.give {p : Addr} {h : HO} {o : Ob} {i : Nat} (G : Good Z Fo g m σ H) (e : H p = some h) (r : ObR Z g m.S.length o h) (n : g.G p = none) (w : g.ow p = none) (f : Fo p = none) (lt : i < m.ρ.length) :
    Good Z Fo (g.give p (.sl i)) { m with ρ := m.ρ.set i (.own o) } (σ.set i (some (.ref p))) H ∧ Ext Fo g m.S.length (g.give p (.sl i)) m.S.length := by
  have E : Ext Fo g m.S.length (g.give p (.sl i)) m.S.length := ⟨⟨fun _ _ h => h, fun _ _ => rfl, Nat.le_refl _⟩, fun _ _ h => .inl h⟩
  have nw : ∀ {a : Addr} {u : Ow}, g.ow a = some u → (g.give p (.sl i)).ow a = some u := fun {a u} q => by
    show (if a = p then some (Ow.sl i) else g.ow a) = some u
    rw [if_neg (fun z => by rw [z, w] at q; cases q)]; exact q
  refine ⟨⟨⟨G.s.gh, G.s.fo, fun k s q => ?_, fun a u q => ?_⟩, by simp [G.len], fun j s q => ?_⟩, E⟩
  · have x := G.s.st k s q
    cases s with
    | ob o' => obtain ⟨h', x1, x2, x3⟩ := x; exact ⟨h', nw x1, x2, x3.ext E⟩
    | ins c fs => obtain ⟨C, dx, fs', x1, x2, x3, x4, x5, x6⟩ := x; exact ⟨C, dx, fs', nw x1, x2, x3, x4, nw x5, x6.ext E⟩
  · have q' : (if a = p then some (Ow.sl i) else g.ow a) = some u := q
    by_cases z : a = p
    · subst z; exact ⟨n, f, h, e⟩
    · rw [if_neg z] at q'; exact G.s.ow a u q'
  · have q : (m.ρ.set i (.own o))[j]? = some s := q
    by_cases z : i = j
    · subst z
      rw [List.getElem?_set_self lt] at q
      cases q
      refine ⟨p, h, List.getElem?_set_self (by rw [← G.len]; exact lt), ?_, e, r.ext E⟩
      show (if p = p then some (Ow.sl i) else g.ow p) = _
      rw [if_pos rfl]
    · rw [List.getElem?_set_ne z] at q
      have x := G.sl j s q
      cases s with
      | un => trivial
      | va d => obtain ⟨v, q1, q2⟩ := x; exact ⟨v, by rw [List.getElem?_set_ne z]; exact q1, q2.ext E⟩
      | own o' => obtain ⟨a, h', q1, q2, q3, q4⟩ := x; exact ⟨a, h', by rw [List.getElem?_set_ne z]; exact q1, nw q2, q3, q4.ext E⟩
def ownM (i : Nat) (f : Mo Ob) : Mo Fl := f.bind fun o m => if i < m.ρ.length then .ok .nx { m with ρ := m.ρ.set i (.own o) } else .no
theorem ds_own {st : Stmt} {i : Nat} {f : Mo Ob} (h : PS X st (tAsg (tN Z Fo W f) (gName i))) : PS X st (tS Z Fo W (ownM i f)) :=
  ps_imp h fun E σ H ⟨g, m, G, k⟩ => ⟨g, m, G, (PoS.ahead (R := RN Z Fo) k).imp fun v H' ⟨o, g', m', G', _, ⟨p, u, ev, e, r, n, w, fo⟩, _, q⟩ => by
    subst ev
    by_cases lt : i < m'.ρ.length
    · rw [if_pos lt] at q
      obtain ⟨G2, E2⟩ := G'.give e r n w fo lt
      exact q _ H' _ G2 E2
    · rw [if_neg lt] at q; exact q.elim⟩
/-! loops -/
def wipeR (vs : List Nat) (ρ : List Sl) : List Sl := vs.foldl (fun ρ i => ρ.set i .un) ρ
theorem wipeR_len : ∀ {vs : List Nat} {ρ : List Sl}, (wipeR vs ρ).length = ρ.length
  | [], _ => rfl
  | v :: vs, ρ => by
    show (wipeR vs (ρ.set v .un)).length = _
    rw [wipeR_len, List.length_set]
theorem wipeR_at : ∀ {vs : List Nat} {ρ : List Sl} {j : Nat} {s : Sl}, (wipeR vs ρ)[j]? = some s → s = .un ∨ (j ∉ vs ∧ ρ[j]? = some s)
  | [], ρ, j, s, h => .inr ⟨by simp, h⟩
  | v :: vs, ρ, j, s, h => by
    have h : (wipeR vs (ρ.set v .un))[j]? = some s := h
    rcases wipeR_at h with h | ⟨n, h⟩
    · exact .inl h
    · by_cases z : v = j
      · subst z
        have lt : v < ρ.length := by
          have q := (List.getElem?_eq_some_iff.mp h).1
          simpa using q
        rw [List.getElem?_set_self lt] at h
        exact .inl (Option.some.inj h).symm
      · rw [List.getElem?_set_ne z] at h
        exact .inr ⟨by simp only [List.mem_cons, not_or]; exact ⟨fun e => z e.symm, n⟩, h⟩
/-- the slots are let go of -/
theorem Good.dropS (G : Good Z Fo g m σ H) (ks : List Nat) : Good Z Fo g { m with ρ := wipeR ks m.ρ } σ H := by
  refine ⟨G.s, by show (wipeR ks m.ρ).length = _; rw [wipeR_len, G.len], fun j s q => ?_⟩
  rcases wipeR_at q with rfl | ⟨_, q⟩
  · trivial
  · exact G.sl j s q
def killM {α : Type} (ks : List Nat) (u : Mo α) : Mo α := fun m => u { m with ρ := wipeR ks m.ρ }
def forL (ks : List Nat) (t : Tg) (b : Mo Fl) : List D → Mo Fl
  | [] => .ret .nx
  | d :: ds => fun m => match bindT t d m.ρ with
    | none => .no
    | some ρ => (b { m with ρ := ρ }).bind fun k => match k with
      | .bk => killM ks (.ret .nx)
      | .rt d => .ret (.rt d)
      | _ => killM ks (forL ks t b ds)
def forM (ks : List Nat) (src : Mo (List D)) (t : Tg) (b : Mo Fl) : Mo Fl := src.bind fun ds => forL ks t b ds
/-- while, so many turns at the most -/
def whlL (ks : List Nat) (c : Mo Bool) (b : Mo Fl) : Nat → Mo Fl
  | 0 => .no
  | n + 1 => c.bind fun k => if k = true then b.bind fun k => match k with
      | .bk => killM ks (.ret .nx)
      | .rt d => .ret (.rt d)
      | _ => killM ks (whlL ks c b n)
    else .ret .nx
def fuel : Nat := 1000000
def whlM (ks : List Nat) (c : Mo Bool) (b : Mo Fl) : Mo Fl := whlL ks c b fuel
theorem PoS.turn {ks : List Nat} {E : Ends} {r : Res Fl} {k : Mo Fl} {T : L2.St → Hp → Prop} (h : PoS Z Fo W g N E (r.bind fun c => match c with | .bk => killM ks (.ret .nx) | .rt d => .ret (.rt d) | _ => killM ks k))
    (q : ∀ m σ H g', Good Z Fo g' m σ H → Ext Fo g N g' m.S.length → PoS Z Fo W g' m.S.length E (k m) → T σ H) : PoS Z Fo W g N { E with nx := T, ct := T, bk := E.nx } r := by
  cases r with
  | ok c m => cases c with
    | nx => exact fun s H g' G e => q { m with ρ := wipeR ks m.ρ } s H g' (G.dropS ks) e (PoS.on h e)
    | bk => exact fun s H g' G e => h s H g' (G.dropS ks) e
    | ct => exact fun s H g' G e => q { m with ρ := wipeR ks m.ρ } s H g' (G.dropS ks) e (PoS.on h e)
    | rt d => exact h
  | exc x m => exact h
  | no => exact h
theorem ds_for {ks : List Nat} {tg iter : Expr} {body : List Stmt} {t : Tg} {src : Mo (List D)} {b : Mo Fl} (hp : PassesOwn (model X.prog X.w) X.A X.env X.xe) (hc : X.calm = true) (hi : PI X tg iter (tI Z Fo W src)) (hg : PG X tg (gT Z Fo t)) (hb : PSs X body (tS Z Fo W b))
    (hs : ∀ x, foldedSetIterable iter X.env x = pure x) : PS X (.For tg iter body [] pos) (tS Z Fo W (forM ks src t b)) :=
  ps_imp (ps_for hp hc hi hg hb hs) fun E σ H ⟨g, m, G, k⟩ => ⟨g, m, G, (PoS.ahead (R := RI Z) k).imp fun J H1 ⟨ds, g1, m1, G1, _, hd, _, q⟩ => by
    refine ⟨fun i c σ H => c = ds.length - i ∧ i ≤ ds.length ∧ ∃ g' m', Good Z Fo g' m' σ H ∧ Mor g1.G g'.G g1.μ g'.μ m1.S.length m'.S.length ∧ PoS Z Fo W g' m'.S.length E (forL ks t b (ds.drop i) m'), ⟨ds.length, by simp, Nat.zero_le _, g1, m1, G1, .rfl', by simpa using q⟩, ?_⟩
    rintro i c σ2 H2 ⟨rfl, le, g2, m2, G2, M, q2⟩
    by_cases lt : i < ds.length
    · obtain ⟨go, yl⟩ := hd.go Fo i g2 m2 σ2 H2 ds[i] G2 M (List.getElem?_eq_getElem lt)
      rw [List.drop_eq_getElem_cons lt] at q2
      simp only [forL] at q2
      cases e1 : bindT t ds[i] m2.ρ with
      | none => rw [e1] at q2; exact q2.elim
      | some ρ' =>
        rw [e1] at q2
        refine .inr ⟨go, fun σ3 H3 => ∃ g3 m3, Good Z Fo g3 m3 σ3 H3 ∧ Mor g1.G g3.G g1.μ g3.μ m1.S.length m3.S.length ∧ PoS Z Fo W g3 m3.S.length E (forL ks t b (ds.drop (i + 1)) m3), fun σ3 H3 ⟨g3, m3, G3, M3, q3⟩ => ⟨ds.length - (i + 1), by omega, rfl, lt, g3, m3, G3, M3, q3⟩, fun x H3 y => ?_⟩
        obtain ⟨g3, G3, E3, dv⟩ := yl x H3 y
        refine ⟨g3, m2, ds[i], ρ', G3, dv, e1, fun σ4 G4 _ _ => ⟨g3, _, G4, PoS.turn (PoS.on q2 E3) fun m5 σ5 H5 g5 G5 E5 p5 => ⟨g5, m5, G5, M.trans (E3.mor.trans E5.mor), p5⟩⟩⟩
    · have e2 : i = ds.length := by omega
      subst e2
      rw [List.drop_length] at q2
      exact .inl ⟨hd.stop Fo g2 m2 σ2 H2 G2 M, q2 σ2 H2 g2 G2 .rfl'⟩⟩
theorem ds_while {ks : List Nat} {c : Expr} {body : List Stmt} {f : Mo Bool} {b : Mo Fl} (hp : PassesOwn (model X.prog X.w) X.A X.env X.xe) (hc : PT X c (tT Z Fo W f)) (hb : PSs X body (tS Z Fo W b)) : PS X (.While c body [] pos) (tS Z Fo W (whlM ks f b)) :=
  ps_imp (ps_while hp hc hb) fun E σ H ⟨g, m, G, k⟩ => by
    refine ⟨fun n σ H => ∃ g' m', Good Z Fo g' m' σ H ∧ Mor g.G g'.G g.μ g'.μ m.S.length m'.S.length ∧ PoS Z Fo W g' m'.S.length E (whlL ks f b n m'), ⟨fuel, g, m, G, .rfl', k⟩, ?_⟩
    rintro n σ1 H1 ⟨g1, m1, G1, M1, k1⟩
    cases n with
    | zero => exact k1.elim
    | succ n =>
      refine ⟨g1, m1, G1, (PoS.ahead (R := RB) k1).imp fun b' H2 ⟨d, g2, m2, G2, E2, r, _, q⟩ => ?_⟩
      have r : d = b' := r
      subst r
      cases d with
      | false => exact q σ1 H2 g2 G2 .rfl'
      | true =>
        exact ⟨_, fun σ' H' x => ⟨n, Nat.lt_succ_self n, x⟩, g2, m2, G2, PoS.turn (T := fun σ3 H3 => ∃ g3 m3, Good Z Fo g3 m3 σ3 H3 ∧ Mor g.G g3.G g.μ g3.μ m.S.length m3.S.length ∧ PoS Z Fo W g3 m3.S.length E (whlL ks f b n m3)) q fun m5 σ5 H5 g5 G5 E5 p5 => ⟨g5, m5, G5, M1.trans (E2.mor.trans E5.mor), p5⟩⟩
end
end
end LB

namespace LB
open PySem L2 PyProof.Rows

theorem zip_nolen : typeLookup (.type "zip") "__len__" = pure none := am_miss_of_fast (by decide +kernel)
theorem zip_nohint : typeLookup (.type "zip") "__length_hint__" = pure none := am_miss_of_fast (by decide +kernel)
section
variable {prog : Program} {w : World} {A : Around} {E : Value → Shared → Prop} {s : Shared} {z TI TO i1 i2 T : Addr} {fp1 fp2 : List Addr} {n1 n2 i : Nat} {P1 P2 : Nat → Value → Prop} {St1 St2 : Nat → Heap → Prop} {fl : Bool} {oT : Obj}
/-- a zip that gave a tuple which is kept: the next is new -/
theorem zz_held {Q : Value → Shared → Prop} (S : ZipSep2 z TI TO i1 i2 fp1 fp2) (D1 : Draws prog w A i1 fp1 n1 P1 St1) (D2 : Draws prog w A i2 fp2 n2 P2 St2)
    (hz : IsZipHeld s.heap z TI TO T fl) (hT : s.heap.get? T = some oT) (hTI : IsTupOf2 s.heap TI (.ref i1) (.ref i2)) (st1 : St1 i s.heap) (st2 : St2 i s.heap) (lt1 : i < n1) (lt2 : i < n2)
    (hQ : ∀ x y h' tk, P1 i x → P2 i y → IsZipHeld h' z TI TO T true → St1 (i + 1) h' → St2 (i + 1) h' → IsTupOf2 h' s.heap.objs.size x y → (∀ c o, c ≠ z → c ≠ i1 → c ≠ i2 → s.heap.get? c = some o → h'.get? c = some o) → Q (.ref s.heap.objs.size) { s with heap := h', toks := tk }) :
    wpAny (model prog w) A (Builtin.«zip.__next__» ⟨[.ref z], []⟩) (fun fin s' => ∃ v, fin = .done (.ret v) ∧ Q v s') E s := by
  obtain ⟨hp, g, d, tk0, os⟩ := s
  show wpAny _ _ (field (.ref z) 2 >>= _) _ _ _
  refine wpAny_bind (wpAny_field hz rfl (x := .bool false) rfl ?_)
  show wpAny _ _ (field (.ref z) 3 >>= _) _ _ _
  refine wpAny_bind (wpAny_field hz rfl (x := .ref TI) rfl (wpAny_bind (wpAny_seqItems hTI rfl ?_)))
  show wpAny _ _ (Builtin.SmallTypes.ownedTupleIsFree (.ref z) >>= _) _ _ _
  refine wpAny_bind (wpAny_tupleHeld_zip hz hT fun g1 z1 k1 => ?_)
  simp only [Bool.false_eq_true, if_false]
  refine wpAny_bind ?_
  rw [← Array.forIn_toList]
  simp only [List.forIn_cons, List.forIn_nil]
  refine wpAny_bind (wpAny_bind (wpAny_holding ?_))
  show wpAny _ _ (Builtin.SmallTypes.nextOf (.ref i1) >>= _) _ _ ⟨g1, g, d, tk0, os⟩
  refine wpAny_bind (D1.item i _ _ _ lt1 (D1.over st1 k1 S.zf1) fun x g2 t2 px s2 k2 => wpAny_pure (wpAny_pure ?_))
  replace k2 : Heap.SameBut i1 g1 g2 := k2
  refine wpAny_bind (wpAny_bind (wpAny_holding ?_))
  show wpAny _ _ (Builtin.SmallTypes.nextOf (.ref i2) >>= _) _ _ ⟨g2, g, d, t2, os⟩
  refine wpAny_bind (D2.item i _ _ _ lt2 (D2.over (D2.over st2 k1 S.zf2) k2 S.sep1_2) fun y g3 t3 py s3 k3 => wpAny_pure (wpAny_pure (wpAny_pure ?_)))
  replace k3 : Heap.SameBut i2 g2 g3 := k3
  show wpAny _ _ (newTuple [x, y] >>= _) _ _ _
  refine wpAny_bind (wpAny_newTuple ?_)
  have sz : g3.objs.size = hp.objs.size := by rw [k3.1, k2.1, k1.1]
  have z3 : IsZipHeld g3 z TI TO T true := k3.extBut _ _ S.zi2 (k2.extBut _ _ S.zi1 z1)
  have kk : ∀ c o, c ≠ z → c ≠ i1 → c ≠ i2 → hp.get? c = some o → g3.get? c = some o := fun c o c1 c2 c3 e => k3.extBut _ _ c3 (k2.extBut _ _ c2 (k1.extBut _ _ c1 e))
  have s2' : St1 (i + 1) g3 := D1.over s2 k3 S.sep2_1
  refine wpAny_pure ⟨_, rfl, ?_⟩
  show Q (.ref g3.objs.size) ⟨g3.push { cls := .type "tuple", data := .seq #[x, y] }, g, d, t3, os⟩
  have hp2 : IsTupOf2 (g3.push { cls := .type "tuple", data := .seq #[x, y] }) g3.objs.size x y := Heap.get?_push_size _ rfl
  rw [sz] at hp2 ⊢
  exact hQ x y _ t3 px py (Heap.get?_push_of_some _ z3) (D1.frame _ _ _ s2' fun b _ o e => Heap.get?_push_of_some _ e) (D2.frame _ _ _ s3 fun b _ o e => Heap.get?_push_of_some _ e) hp2 fun c o c1 c2 c3 e => Heap.get?_push_of_some _ (kk c o c1 c2 c3 e)
theorem zz_held_end {Q : Fin → Shared → Prop} (S : ZipSep2 z TI TO i1 i2 fp1 fp2) (D1 : Draws prog w A i1 fp1 n1 P1 St1) (D2 : Draws prog w A i2 fp2 n2 P2 St2)
    (hz : IsZipHeld s.heap z TI TO T fl) (hT : s.heap.get? T = some oT) (hTI : IsTupOf2 s.heap TI (.ref i1) (.ref i2)) (st1 : St1 i s.heap) (st2 : St2 i s.heap) (le1 : i ≤ n1) (le2 : i ≤ n2) (hend : i = n1 ∨ i = n2)
    (hE : ∀ h' tk e, (∀ c o, c ≠ z → c ≠ i1 → c ≠ i2 → s.heap.get? c = some o → h'.get? c = some o) → (∃ o, h'.get? e = some o ∧ o.cls = .type "StopIteration") → E (.ref e) { s with heap := h', toks := tk }) :
    wpAny (model prog w) A (Builtin.«zip.__next__» ⟨[.ref z], []⟩) Q E s := by
  obtain ⟨hp, g, d, tk0, os⟩ := s
  show wpAny _ _ (field (.ref z) 2 >>= _) _ _ _
  refine wpAny_bind (wpAny_field hz rfl (x := .bool false) rfl ?_)
  show wpAny _ _ (field (.ref z) 3 >>= _) _ _ _
  refine wpAny_bind (wpAny_field hz rfl (x := .ref TI) rfl (wpAny_bind (wpAny_seqItems hTI rfl ?_)))
  show wpAny _ _ (Builtin.SmallTypes.ownedTupleIsFree (.ref z) >>= _) _ _ _
  refine wpAny_bind (wpAny_tupleHeld_zip hz hT fun g1 z1 k1 => ?_)
  simp only [Bool.false_eq_true, if_false]
  refine wpAny_bind ?_
  rw [← Array.forIn_toList]
  simp only [List.forIn_cons, List.forIn_nil]
  refine wpAny_bind (wpAny_bind (wpAny_holding ?_))
  show wpAny _ _ (Builtin.SmallTypes.nextOf (.ref i1) >>= _) _ _ ⟨g1, g, d, tk0, os⟩
  have st1' := D1.over st1 k1 S.zf1
  by_cases lt1 : i < n1
  · have e2 : i = n2 := by omega
    refine wpAny_bind (D1.item i _ _ _ lt1 st1' fun x g2 t2 px s2 k2 => wpAny_pure (wpAny_pure ?_))
    replace k2 : Heap.SameBut i1 g1 g2 := k2
    refine wpAny_bind (wpAny_bind (wpAny_holding ?_))
    show wpAny _ _ (Builtin.SmallTypes.nextOf (.ref i2) >>= _) _ _ ⟨g2, g, d, t2, os⟩
    have st2' := D2.over (D2.over st2 k1 S.zf2) k2 S.sep1_2
    subst e2
    refine wpAny_bind (D2.done _ _ _ st2' fun g3 e k3 he => ?_)
    exact hE g3 t2 e (fun c o c1 c2 c3 x => k3 _ _ c3 (k2.extBut _ _ c2 (k1.extBut _ _ c1 x))) he
  · have e1 : i = n1 := by omega
    subst e1
    refine wpAny_bind (D1.done _ _ _ st1' fun g3 e k3 he => ?_)
    exact hE g3 tk0 e (fun c o c1 c2 c3 x => k3 _ _ c2 (k1.extBut _ _ c1 x)) he
theorem next_zz_held {Q : Option Value → Shared → Prop} (S : ZipSep2 z TI TO i1 i2 fp1 fp2) (D1 : Draws prog w A.in1 i1 fp1 n1 P1 St1) (D2 : Draws prog w A.in1 i2 fp2 n2 P2 St2)
    (hz : IsZipHeld s.heap z TI TO T fl) (hT : s.heap.get? T = some oT) (hTI : IsTupOf2 s.heap TI (.ref i1) (.ref i2)) (st1 : St1 i s.heap) (st2 : St2 i s.heap) (lt1 : i < n1) (lt2 : i < n2)
    (hQ : ∀ x y h' tk, P1 i x → P2 i y → IsZipHeld h' z TI TO T true → St1 (i + 1) h' → St2 (i + 1) h' → IsTupOf2 h' s.heap.objs.size x y → (∀ c o, c ≠ z → c ≠ i1 → c ≠ i2 → s.heap.get? c = some o → h'.get? c = some o) → Q (some (.ref s.heap.objs.size)) { s with heap := h', toks := tk }) :
    wpAny (model prog w) A (pyNext (.ref z)) Q E s := by
  have ty : s.TypeIs (.ref z) "zip" := ⟨_, hz, rfl⟩
  unfold pyNext
  exact wpAny_bind (wpAny_attempt (wpAny_callSpecial?_slot (name := Str.ofString "__next__") ty F.slot_zip_next
    (wpAny_call_entry F.slot_zip_next ty F.entry_zip_next (zz_held S D1 D2 hz hT hTI st1 st2 lt1 lt2 fun x y h' tk a b c d e f r => wpAny_pure (hQ x y h' tk a b c d e f r)) (F.args_zip_next_1 _))))
theorem next_zz_end {Q : Option Value → Shared → Prop} (S : ZipSep2 z TI TO i1 i2 fp1 fp2) (D1 : Draws prog w A.in1 i1 fp1 n1 P1 St1) (D2 : Draws prog w A.in1 i2 fp2 n2 P2 St2)
    (hz : IsZipHeld s.heap z TI TO T fl) (hT : s.heap.get? T = some oT) (hTI : IsTupOf2 s.heap TI (.ref i1) (.ref i2)) (st1 : St1 i s.heap) (st2 : St2 i s.heap) (le1 : i ≤ n1) (le2 : i ≤ n2) (hend : i = n1 ∨ i = n2)
    (hQ : ∀ h' tk, (∀ c o, c ≠ z → c ≠ i1 → c ≠ i2 → s.heap.get? c = some o → h'.get? c = some o) → Q none { s with heap := h', toks := tk }) : wpAny (model prog w) A (pyNext (.ref z)) Q E s := by
  have ty : s.TypeIs (.ref z) "zip" := ⟨_, hz, rfl⟩
  unfold pyNext
  refine wpAny_bind (wpAny_attempt (wpAny_callSpecial?_slot (name := Str.ofString "__next__") ty F.slot_zip_next
    (wpAny_call_entry F.slot_zip_next ty F.entry_zip_next (zz_held_end S D1 D2 hz hT hTI st1 st2 le1 le2 hend fun h' tk e hk he => ?_) (F.args_zip_next_1 _))))
  obtain ⟨o, ho, hc⟩ := he
  exact wpAny_bind (wpAny_isInstance (T := "StopIteration") (b := true) ⟨o, ho, hc⟩ isSubtype_stop (wpAny_pure (hQ _ _ hk)))
end

section
variable {X : Cx} {pins : List (Addr × Obj)} {σ : L2.St} {H : Hp} {s : Shared} {h' : Heap}
/-- an untracked object of ours is tracked from now on -/
theorem Inv.put {T : Addr} {ob : HO} (I : Inv X pins σ H s) (f : FpOk X pins H T) (new : ObjOk X.prog X.w (upd H T ob) s.heap T ob) : Inv X pins σ (upd H T ob) s := by
  have nT : H T = none := f.1
  refine I.step (h' := s.heap) (g' := s.gens) (d' := s.drawn) (t' := s.toks) (ch := [T]) (fun b hb => ?_) (fun b o _ _ _ e _ => e) (fun b o _ _ _ e _ => ⟨o.slots, e⟩)
    (fun b o hb e n => ?_) (fun b o _ e => ⟨o, e⟩) (fun b xs e => ?_) (fun b o u e => ?_) (fun b ps e => ⟨#[], ?_⟩) (fun m hm => hm) (fun b u e => ?_) I.bare
  · cases List.mem_singleton.mp hb
    exact ⟨f.2.2.2.1, f.2.1, f.2.2.2.2.1, f.2.2.2.2.2⟩
  · rw [upd_ne (fun z => hb (by rw [z]; exact List.mem_singleton.mpr rfl))]; exact n
  · rw [upd_ne (ne_of_none e nT)]; exact e
  · rw [upd_ne (ne_of_none e nT)]; exact e
  · rw [upd_ne (ne_of_none e nT), e]; simp
  · by_cases hb : b = T
    · subst hb
      rw [upd_same] at e
      cases e
      exact new
    · rw [upd_ne hb] at e
      exact (I.hok b u e).stay (fun c v hc q => q) (fun c q => by rw [upd_ne (ne_of_none q nT)]; exact q) fun c xs q => by rw [upd_ne (ne_of_none q nT)]; exact q
variable {Z : Stc} {Fo : Hp} {g : Gh} {m : Mst} {q1 q2 : Src} {xs ys : List D} {z TI TO i1 i2 S : Addr}
/-- the state while a list is made of a zip: i pairs are in it -/
structure LzS (X : Cx) (pins : List (Addr × Obj)) (σ : L2.St) (Z : Stc) (Fo : Hp) (g : Gh) (m : Mst) (q1 q2 : Src) (ps : List D) (z TI TO i1 i2 S : Addr) (i : Nat) (s : Shared) : Prop where
  ex : ∃ (H : Hp) (g' : Gh) (vs : List V) (acc : Array Value) (c : Nat), Inv X pins σ H s ∧ Good Z Fo g' m σ H ∧ Ext Fo g m.S.length g' m.S.length ∧ Vals vs acc.toList ∧ DVs Z g'.G g'.μ m.S.length (ps.take i) vs ∧
    s.heap.get? S = some { cls := .type "list", dict := none, data := .seq acc c, slots := #[] } ∧ (∀ b ∈ [z, TI, TO, i1, i2, S], FpOk X pins H b) ∧
    (IsZip s.heap z TI TO .none ∨ ∃ T f u, IsZipHeld s.heap z TI TO T f ∧ H T = some u) ∧ (∃ a b, IsTupOf2 s.heap TO a b) ∧ IsTupOf2 s.heap TI (.ref i1) (.ref i2) ∧ q1.itn i1 i s.heap ∧ q2.itn i2 i s.heap
abbrev Has (Z : Stc) (g : Gh) (N : Nat) (q : Src) (ds : List D) : Prop := ∀ {Fo : Hp} {g' : Gh} {m' : Mst} {σ' : L2.St} {H' : Hp}, Good Z Fo g' m' σ' H' → Mor g.G g'.G g.μ g'.μ N m'.S.length → ∃ vs, q.has Z.K H' vs ∧ DVs Z g'.G g'.μ m'.S.length ds vs
/-- the list is made -/
structure LzE (X : Cx) (pins : List (Addr × Obj)) (σ : L2.St) (Z : Stc) (Fo : Hp) (g : Gh) (m : Mst) (ps : List D) (S : Addr) (s : Shared) : Prop where
  ex : ∃ (H : Hp) (g' : Gh) (vs : List V) (acc : Array Value) (c : Nat), Inv X pins σ H s ∧ Good Z Fo g' m σ H ∧ Ext Fo g m.S.length g' m.S.length ∧ Vals vs acc.toList ∧ DVs Z g'.G g'.μ m.S.length ps vs ∧
    s.heap.get? S = some { cls := .type "list", dict := none, data := .seq acc c, slots := #[] } ∧ FpOk X pins H S
theorem lz_loop {A : Around} {R : Result → Shared → Prop} {res : Value} (hK : X.K = Z.K) (hh : A.handled = none) (h1 : Has Z g m.S.length q1 xs) (h2 : Has Z g m.S.length q2 ys) (D : ZipSep2 z TI TO i1 i2 (i1 :: q1.adr) (i2 :: q2.adr)) (n1 : i1 ∉ q1.adr) (n2 : i2 ∉ q2.adr)
    (nS : S ≠ z ∧ S ≠ TI ∧ S ≠ TO ∧ S ≠ i1 ∧ S ≠ i2) (hz : (zipF xs ys).length ≤ sizeLine) (done : ∀ s', LzE X pins σ Z Fo g m (zipF xs ys) S s' → R (.ok (.ret res)) s') :
    ∀ (k i : Nat) (s : Shared), (zipF xs ys).length - i = k → i ≤ (zipF xs ys).length → LzS X pins σ Z Fo g m q1 q2 (zipF xs ys) z TI TO i1 i2 S i s → codeAny (model X.prog X.w) A (.builtin "list.extend.loop" ⟨[.ref S, .ref z, res], []⟩) R s := by
  have ln := zipF_len xs ys
  have hh1 : A.in1.in1.handled = none := hh
  intro k
  induction k with
  | zero =>
    intro i s hk hi st
    have e : i = (zipF xs ys).length := by omega
    refine codeAny_builtin F.entry_extend_loop ?_
    rw [Around.under_plainId F.plain_extend_loop _]
    show wpAny _ A.in1 (pyNext (.ref z) >>= _) _ _ s
    obtain ⟨H, g', vs, acc, c, I, G, E, rv, rd, hS, fp, zs, ⟨ta, tb, hTO⟩, hTI, t1, t2⟩ := st
    obtain ⟨us, hu, ru⟩ := h1 G E.mor
    obtain ⟨ws, hw, rw'⟩ := h2 G E.mor
    obtain ⟨P1, S1, D1, s1, b1, _⟩ := Src.draws (B := A.in1.in1) I hh1 (hK ▸ hu) t1 n1
    obtain ⟨P2, S2, D2, s2, b2, _⟩ := Src.draws (B := A.in1.in1) I hh1 (hK ▸ hw) t2 n2
    have l1 := ru.length
    have l2 := rw'.length
    have rd' : DVs Z g'.G g'.μ m.S.length (zipF xs ys) vs := by
      rw [List.take_of_length_le (by omega)] at rd
      exact rd
    have fin : ∀ h' tk, (∀ b o, b ≠ z → b ≠ TO → b ≠ i1 → b ≠ i2 → s.heap.get? b = some o → h'.get? b = some o) → R (.ok (.ret res)) { s with heap := h', toks := tk } := fun h' tk hk => done _ ⟨H, g', vs, acc, c,
      I.turnedL (ch := [z, TO, i1, i2]) (fun b o hb e => hk b o (fun y => hb (by simp [y])) (fun y => hb (by simp [y])) (fun y => hb (by simp [y])) (fun y => hb (by simp [y])) e) (fun b hb => fp b (by
        have e' : b = z ∨ b = TO ∨ b = i1 ∨ b = i2 := by simpa using hb
        rcases e' with y | y | y | y <;> simp [y])), G, E, rv, rd', hk S _ nS.1 nS.2.2.1 nS.2.2.2.1 nS.2.2.2.2 hS, fp S (by simp)⟩
    rcases zs with z0 | ⟨T, f, u, zh, hT⟩
    · exact wpAny_bind (wpAny_pyNext_zipD2_end D D1 D2 z0 hTI hTO s1 s2 (by omega) (by omega) (by omega) fun h' tk hk => wpAny_pure (fin h' tk hk))
    · obtain ⟨oT, eT⟩ := objOk_get (I.hok T u hT)
      exact wpAny_bind (next_zz_end D D1 D2 zh eT hTI s1 s2 (by omega) (by omega) (by omega) fun h' tk hk => wpAny_pure (fin h' tk fun b o n1 _ n3 n4 e => hk b o n1 n3 n4 e))
  | succ k ih =>
    intro i s hk hi st
    have lt : i < (zipF xs ys).length := by omega
    refine codeAny_builtin F.entry_extend_loop ?_
    rw [Around.under_plainId F.plain_extend_loop _]
    show wpAny _ A.in1 (pyNext (.ref z) >>= _) _ _ s
    obtain ⟨H, g', vs, acc, c, I, G, E, rv, rd, hS, fp, zs, ⟨ta, tb, hTO⟩, hTI, t1, t2⟩ := st
    obtain ⟨us, hu, ru⟩ := h1 G E.mor
    obtain ⟨ws, hw, rw'⟩ := h2 G E.mor
    obtain ⟨P1, S1, D1, s1, b1, r1⟩ := Src.draws (B := A.in1.in1) I hh1 (hK ▸ hu) t1 n1
    obtain ⟨P2, S2, D2, s2, b2, r2⟩ := Src.draws (B := A.in1.in1) I hh1 (hK ▸ hw) t2 n2
    have l1 := ru.length
    have l2 := rw'.length
    obtain ⟨d, e, ed, ee, ep⟩ := zipF_at (List.getElem?_eq_getElem lt)
    obtain ⟨dv, edv, rdv⟩ := ru.get ed
    obtain ⟨ev, eev, rev⟩ := rw'.get ee
    have fresh : H s.heap.objs.size = none := I.hok.fresh (Nat.le_refl _)
    have accl : acc.size = i := by
      have q1 := rv.length
      have q2 := rd.length
      rw [List.length_take] at q2
      have q3 : acc.toList.length = acc.size := by simp
      omega
    -- the rest of a turn, whichever way the tuple came
    have rest : ∀ x y h' tk, P1 i x → P2 i y → S1 (i + 1) h' → S2 (i + 1) h' → IsTupOf2 h' s.heap.objs.size x y → (∃ T f, IsZipHeld h' z TI TO T f ∧ ((∃ u, H T = some u) ∨ T = s.heap.objs.size)) → (∃ a b, IsTupOf2 h' TO a b) → (∀ b o, b ≠ z → b ≠ TO → b ≠ i1 → b ≠ i2 → s.heap.get? b = some o → h'.get? b = some o) →
        wpAny (model X.prog X.w) A.in1 (updateSeq S (·.push (.ref s.heap.objs.size)) >>= fun _ => again (.builtin "list.extend.loop" ⟨[.ref S, .ref z, res], []⟩)) (fun fin s' => match fin with | .done f => R (.ok f) s' | .again c' => c'.quiet = true ∧ codeAny (model X.prog X.w) A c' R s') (fun e s' => R (.error e) s') { s with heap := h', toks := tk } := fun x y h' tk p1 p2 q1' q2' hT2 zh ⟨a, b, hO⟩ hk => by
      obtain ⟨x', ex, rx⟩ := r1 i x p1
      rw [edv] at ex; cases ex
      obtain ⟨y', ey, ry⟩ := r2 i y p2
      rw [eev] at ey; cases ey
      have hS' := hk S _ nS.1 nS.2.2.1 nS.2.2.2.1 nS.2.2.2.2 hS
      have nTS : s.heap.objs.size ≠ S := Nat.ne_of_gt (Heap.lt_size hS)
      refine wpAny_bind (wpAny_updateSeq (s := { s with heap := h', toks := tk }) (hz := by
        show acc.size ≤ sizeLine
        omega) hS' rfl (wpAny_pure ⟨plainId_quiet F.plain_extend_loop _, ?_⟩))
      have hS2 := Heap.get?_update_self (Obj.mapSeq (·.push (Value.ref s.heap.objs.size))) hS' rfl
      have ok2 : ∀ b o, b ≠ S → h'.get? b = some o → (h'.update S (Obj.mapSeq (·.push (Value.ref s.heap.objs.size)))).get? b = some o := fun b o n e => (Heap.get?_update_other _ _ (Ne.symm n)).trans e
      have hT3 := ok2 _ _ nTS hT2
      have new : ObjOk X.prog X.w (upd H s.heap.objs.size (.tup [dv, ev])) (h'.update S (Obj.mapSeq (·.push (Value.ref s.heap.objs.size)))) s.heap.objs.size (.tup [dv, ev]) :=
        ⟨by show 2 ≤ sizeLine; decide, [x, y], .cons rx (.cons ry .nil), ⟨_, hT3, rfl, _, rfl⟩⟩
      have I2 : Inv X pins σ (upd H s.heap.objs.size (.tup [dv, ev])) { s with heap := h'.update S (Obj.mapSeq (·.push (Value.ref s.heap.objs.size))), toks := tk } :=
        I.turnedNew (ch := [z, TI, TO, i1, i2, S]) (fun b o hb e => ok2 b o (fun y => hb (by simp [y])) (hk b o (fun y => hb (by simp [y])) (fun y => hb (by simp [y])) (fun y => hb (by simp [y])) (fun y => hb (by simp [y])) e)) fp (Nat.le_refl _) new
      obtain ⟨G2, E2⟩ := G.laid (h := .tup [dv, ev]) fresh
      have pair : DV Z (g'.keep s.heap.objs.size (.tup [dv, ev])).G (g'.keep s.heap.objs.size (.tup [dv, ev])).μ m.S.length (zipF xs ys)[i] (.ref s.heap.objs.size) := by
        rw [ep]
        exact dv_pair (show upd g'.G _ _ s.heap.objs.size = some _ from upd_same) (rdv.ext E2) (rev.ext E2)
      refine ih (i + 1) _ (by omega) lt ⟨_, _, vs ++ [.ref s.heap.objs.size], acc.push (.ref s.heap.objs.size), _, I2, G2, E.trans E2, ?_, ?_, hS2, fun b hb => ?_, ?_, ⟨a, b, ok2 _ _ nS.2.2.1.symm hO⟩, ?_, ?_, ?_⟩
      · rw [Array.toList_push]
        exact rv.append (.cons rfl .nil)
      · rw [List.take_succ_eq_append_getElem lt]
        exact (rd.mor E2.mor).append (.cons pair .nil)
      · have nb : b ≠ s.heap.objs.size := fun y => by
          have e' : b = z ∨ b = TI ∨ b = TO ∨ b = i1 ∨ b = i2 ∨ b = S := by simpa using hb
          have lts : b < s.heap.objs.size := by
            rcases e' with q | q | q | q | q | q
            · rw [q]
              rcases zs with z0 | ⟨_, _, _, z0, _⟩
              · exact Heap.lt_size z0
              · exact Heap.lt_size z0
            · rw [q]; exact Heap.lt_size hTI
            · rw [q]; exact Heap.lt_size hTO
            · rw [q]; obtain ⟨_, z0, _⟩ := Src.rec_at t1; exact Heap.lt_size z0
            · rw [q]; obtain ⟨_, z0, _⟩ := Src.rec_at t2; exact Heap.lt_size z0
            · rw [q]; exact Heap.lt_size hS
          rw [y] at lts
          exact Nat.lt_irrefl _ lts
        obtain ⟨f0, f1, f2, f3, f4, f5⟩ := fp b hb
        exact ⟨by rw [upd_ne nb]; exact f0, f1, f2, f3, f4, f5⟩
      · obtain ⟨T, f, zh, hu⟩ := zh
        refine .inr ⟨T, f, ?_⟩
        rcases hu with ⟨u, hu⟩ | rfl
        · exact ⟨u, ok2 _ _ nS.1.symm zh, by rw [upd_ne (fun y => by rw [y, fresh] at hu; cases hu)]; exact hu⟩
        · exact ⟨_, ok2 _ _ nS.1.symm zh, upd_same⟩
      · exact ok2 _ _ nS.2.1.symm (hk TI _ D.TIz D.TITO D.TIi1 D.TIi2 hTI)
      · exact Src.itn_at (b1 _ _ q1') fun o e => ok2 _ _ nS.2.2.2.1.symm e
      · exact Src.itn_at (b2 _ _ q2') fun o e => ok2 _ _ nS.2.2.2.2.symm e
    have lt1 : i < us.length := by omega
    have lt2 : i < ws.length := by omega
    rcases zs with z0 | ⟨T, f, u, zh, hT⟩
    · refine wpAny_bind (wpAny_pyNext_zipD2_item D D1 D2 z0 hTI hTO s1 s2 lt1 lt2 fun x y h' tk p1 p2 z' O q1' q2' hT2 _ hk => ?_)
      exact rest x y h' tk p1 p2 q1' q2' hT2 ⟨_, _, z', .inr rfl⟩ ⟨_, _, O⟩ hk
    · obtain ⟨oT, eT⟩ := objOk_get (I.hok T u hT)
      refine wpAny_bind (next_zz_held D D1 D2 zh eT hTI s1 s2 lt1 lt2 fun x y h' tk p1 p2 z' q1' q2' hT2 hk => ?_)
      exact rest x y h' tk p1 p2 q1' q2' hT2 ⟨_, _, z', .inl ⟨u, hT⟩⟩ ⟨_, _, hk TO _ D.TOz D.Ti1 D.Ti2 hTO⟩ fun b o n1 _ n3 n4 e => hk b o n1 n3 n4 e
theorem call_lz {A : Around} {E : Value → Shared → Prop} {Q : Value → Shared → Prop} (hK : X.K = Z.K) (hh : A.handled = none) (I : Inv X pins σ H s) (G : Good Z Fo g m σ H) (h1 : Has Z g m.S.length q1 xs) (h2 : Has Z g m.S.length q2 ys)
    (D : ZipSep2 z TI TO i1 i2 (i1 :: q1.adr) (i2 :: q2.adr)) (n1 : i1 ∉ q1.adr) (n2 : i2 ∉ q2.adr) (hz : IsZip s.heap z TI TO .none) (hTI : IsTupOf2 s.heap TI (.ref i1) (.ref i2)) (hTO : IsTupOf2 s.heap TO .none .none) (t1 : q1.itn i1 0 s.heap) (t2 : q2.itn i2 0 s.heap) (fp : ∀ c ∈ [z, TI, TO, i1, i2], FpOk X pins H c)
    (sz : (zipF xs ys).length ≤ sizeLine) (hQ : ∀ S s', LzE X pins σ Z Fo g m (zipF xs ys) S s' → Q (.ref S) s') : wpAny (model X.prog X.w) A (call (.type "list") [.ref z]) Q E s := by
  have lts : ∀ c ∈ [z, TI, TO, i1, i2], c < s.heap.objs.size := fun c hc => by
    have e' : c = z ∨ c = TI ∨ c = TO ∨ c = i1 ∨ c = i2 := by simpa using hc
    rcases e' with q | q | q | q | q
    · rw [q]; exact Heap.lt_size hz
    · rw [q]; exact Heap.lt_size hTI
    · rw [q]; exact Heap.lt_size hTO
    · rw [q]; obtain ⟨_, z0, _⟩ := Src.rec_at t1; exact Heap.lt_size z0
    · rw [q]; obtain ⟨_, z0, _⟩ := Src.rec_at t2; exact Heap.lt_size z0
  have ne : ∀ c ∈ [z, TI, TO, i1, i2], s.heap.objs.size ≠ c := fun c hc => Nat.ne_of_gt (lts c hc)
  refine callType_codes (Q₁ := fun obj s₁ => obj = .ref s.heap.objs.size ∧ s₁ = { s with heap := s.heap.push { cls := .type "list", data := .seq #[] } }) F.called_list (F.typeCall_list_1 _) F.entry_list_init (code_list_new _ ⟨rfl, rfl⟩) fun obj s₁ ⟨e1, e2⟩ => ?_
  subst e1 e2
  have hS : (s.heap.push { cls := .type "list", data := .seq #[] }).get? s.heap.objs.size = some { cls := .type "list", data := .seq #[] } := Heap.get?_push_size _ rfl
  refine ⟨⟨_, hS, rfl⟩, F.args_list_init_2 _ _, ?_⟩
  show wpAny _ A.in1.in1 (do let old ← Builtin.List.listItems (.ref s.heap.objs.size); Builtin.List.listUpdate (.ref s.heap.objs.size) (fun _ => #[]); letGo old.toList.reverse; Builtin.List.listExtendWith (.ref s.heap.objs.size) (.ref z) .none) _ _ _
  refine wpAny_bind ?_
  unfold Builtin.List.listItems
  refine wpAny_bind (wpAny_seqItems hS rfl (wpAny_pure ?_))
  show wpAny _ A.in1.in1 (updateSeq s.heap.objs.size (fun _ => #[]) >>= fun _ => letGo (#[] : Array Value).toList.reverse >>= fun _ => Builtin.List.listExtendWith (.ref s.heap.objs.size) (.ref z) .none) _ _ _
  refine wpAny_bind (wpAny_updateSeq hS rfl ?_)
  have hS2 := Heap.get?_update_self (Obj.mapSeq (fun _ => (#[] : Array Value))) hS rfl
  refine wpAny_bind (wpAny_letGo ?_)
  unfold Builtin.List.listExtendWith
  have up : ∀ (h : Heap) (f : Obj → Obj), (∀ b o, s.heap.get? b = some o → h.get? b = some o) → ∀ b o, s.heap.get? b = some o → (h.update s.heap.objs.size f).get? b = some o := fun h f q b o e =>
    (Heap.get?_update_other _ _ (Ne.symm (Nat.ne_of_lt (Heap.lt_size e)))).trans (q b o e)
  have k1 : ∀ b o, s.heap.get? b = some o → (s.heap.push { cls := .type "list", data := .seq #[] }).get? b = some o := fun b o e => Heap.get?_push_of_some _ e
  have k2 := up _ (Obj.mapSeq (fun _ => (#[] : Array Value))) k1
  have ty : ∀ {h : Heap} {tk : Nat}, (∀ b o, s.heap.get? b = some o → h.get? b = some o) → Shared.TypeIs { s with heap := h, toks := tk } (.ref z) "zip" := fun {h tk} q => ⟨_, q _ _ hz, rfl⟩
  refine wpAny_bind (wpAny_typeOf (ty k2) ?_)
  have b1 : Builtin.List.listSameRef (.ref s.heap.objs.size) (.ref z) = false := by simp [Builtin.List.listSameRef, ne z (by simp)]
  have b2 : (Value.type "zip" == Value.type "list") = false := by decide
  have b3 : (Value.type "zip" == Value.type "tuple") = false := by decide
  simp only [b1, b2, b3, Bool.or_false, Bool.false_eq_true, if_false]
  refine wpAny_bind (wpAny_pyIter_zip (k2 _ _ hz) (wpAny_bind (wpAny_holding ?_)))
  unfold Builtin.List.listLengthHint
  refine wpAny_bind (wpAny_specialOf (ty k2) zip_nolen ?_)
  show wpAny _ A.in1.in1 (specialOf (Value.ref z) (Str.ofString "__length_hint__") >>= _) _ _ _
  refine wpAny_bind (wpAny_specialOf (ty k2) zip_nohint (wpAny_pure ?_))
  show wpAny _ A.in1.in1 (rule "list.extend.makes-room" >>= fun _ => Builtin.List.listTouch (.ref s.heap.objs.size) >>= fun _ => again (.builtin "list.extend.loop" ⟨[.ref s.heap.objs.size, .ref z, .none], []⟩)) _ _ _
  refine wpAny_bind (wpAny_rule (wpAny_bind ?_))
  show wpAny _ A.in1.in1 (updateSeq s.heap.objs.size (·.push .none) >>= fun _ => updateSeq s.heap.objs.size (·.pop)) _ _ _
  refine wpAny_bind (wpAny_updateSeq hS2 rfl ?_)
  have hS3 := Heap.get?_update_self (Obj.mapSeq (·.push Value.none)) hS2 rfl
  refine wpAny_updateSeq (hz := by seq_fits) hS3 rfl ?_
  have hS4 := Heap.get?_update_self (Obj.mapSeq (·.pop)) hS3 rfl
  have k4 := up _ (Obj.mapSeq (·.pop)) (up _ (Obj.mapSeq (·.push Value.none)) k2)
  refine wpAny_pure ⟨plainId_quiet F.plain_extend_loop _, ?_⟩
  have I4 := I.kept (t' := s.toks) k4
  refine lz_loop (A := A.in1) (q1 := q1) (q2 := q2) (X := X) (pins := pins) (σ := σ) (Z := Z) (Fo := Fo) (g := g) (m := m) hK hh h1 h2 D n1 n2 ⟨ne z (by simp), ne TI (by simp), ne TO (by simp), ne i1 (by simp), ne i2 (by simp)⟩ sz (fun s' e => ⟨rfl, hQ _ s' e⟩) _ 0 _ rfl (Nat.zero_le _)
    ⟨H, g, [], #[], _, I4, G, .rfl', .nil, .nil, hS4, fun b hb => ?_, .inl (k4 _ _ hz), ⟨_, _, k4 _ _ hTO⟩, k4 _ _ hTI, Src.itn_at t1 fun o e => k4 _ _ e, Src.itn_at t2 fun o e => k4 _ _ e⟩
  by_cases c : b = s.heap.objs.size
  · rw [c]
    exact I.fpOk (Nat.le_refl _) (I.hok.fresh (Nat.le_refl _))
  · refine fp b ?_
    have e' : b = z ∨ b = TI ∨ b = TO ∨ b = i1 ∨ b = i2 ∨ b = s.heap.objs.size := by simpa using hb
    rcases e' with y | y | y | y | y | y <;> first | (exact absurd y c) | simp [y]
end
def lzM (f : Mo (List D)) : Mo Ob := f.bind fun ds m => match zzD ds with
  | some l => if l.length ≤ sizeLine then .ok (.lst l) m else .no
  | none => .no
section
variable {X : Cx} {Z : Stc} {Fo : Hp} {W : WX} {a b : Expr} {f : Mo (List D)} {p p2 pos pos2 : Pos}
/-- list(zip(a, b)) -/
theorem de_lzip (hK : X.K = Z.K) (hc : X.calm = true) (hg : Gl X "zip") (hm : X.mg "zip" = none) (hgl : Gl X "list") (hml : X.mg "list" = none) (hs : starEach [a, b] X.env = (false, eval a X.env) :: starEach [b] X.env) (hpl : (backTo pos2 (starEach [b] X.env)).any (·.1) = false) (h : PA X [a, b] (tL Z Fo W f)) :
    PE X (.Call (.Name "list" p) [.Call (.Name "zip" p2) [a, b] [] pos2] [] pos) (tN Z Fo W (lzM f)) := by
  refine ⟨fun pins s σ H Q I ⟨g, m, G, hw⟩ => ?_⟩
  refine wpAny_Call_Name_kw (ld_blt I hgl hml (show bootBuiltins "list" = some (.type "list") by decide +kernel) (PyProof.Rows.callWith_type1 ?_ rfl rfl))
  refine Calls.spliced_cons (Call_ (ld_blt I hg hm boot_zip (PyProof.Rows.callWith_type1 (thn (h.run pos2 pins s σ H (fun us H1 => ∃ ds g' m', Good Z Fo g' m' σ H1 ∧ Ext Fo g m.S.length g' m'.S.length ∧ DVs Z g'.G g'.μ m'.S.length ds us ∧ Pg Z Fo W (RN Z Fo) g' m'.S.length σ Q (match zzD ds with
    | some l => if l.length ≤ sizeLine then .ok (.lst l) m' else .no
    | none => .no)) I ⟨g, m, G, (Pg.bind (R := RDs Z) hw).imp fun vs H' ⟨ds, g', m', G', E, r, _, q⟩ => ⟨ds, g', m', G', E, r, q⟩⟩) fun us s1 ⟨vs, H1, I1, r1, ds, g', m', G', E, rd, q⟩ => ?_) hs hpl)))
  cases e1 : zzD ds with
  | none => rw [e1] at q; exact q.elim
  | some l =>
    rw [e1] at q
    by_cases sz : l.length ≤ sizeLine
    case neg => simp only [if_neg sz] at q; exact q.elim
    simp only [if_pos sz] at q
    have two : ∃ d d2, ds = [d, d2] := by
      match ds, e1 with
      | [d, d2], _ => exact ⟨d, d2, rfl⟩
    obtain ⟨d, d2, rfl⟩ := two
    cases rd with
    | @cons _ v _ vs' x1 rd =>
    cases rd with
    | @cons _ w _ vs'' x2 rd =>
    cases rd
    cases r1 with
    | cons r r' =>
      cases r' with
      | cons r' rn =>
        cases rn
        simp only [zzD] at e1
        split at e1
        · rename_i xs ys ex ey
          cases e1
          obtain ⟨q1, hv, h1⟩ := src_at ex x1
          obtain ⟨q2, hv2, h2⟩ := src_at ey x2
          obtain ⟨us1, hu, _⟩ := h1 G' .rfl'
          obtain ⟨us2, hu2, _⟩ := h2 G' .rfl'
          refine zip_made I1 r r' hv hv2 (hK ▸ hu) (hK ▸ hu2) fun h' z TI TO i1 i2 D n1 n2 hz hTI hTO t1 t2 I2 fp => ?_
          refine Calls.spliced_nil ?_
          refine call_lz hK (I.ok.hd hc) I2 G' (fun G M => h1 G M) (fun G M => h2 G M) D n1 n2 hz hTI hTO t1 t2 fp sz fun S s2 ⟨H2, g2, vs, acc, c, I3, G3, E3, rv, rd, hS, fS⟩ => ?_
          have lv : vs.length ≤ sizeLine := by rw [← rd.length]; exact sz
          have new : ObjOk X.prog X.w (upd H2 S (.lst vs)) s2.heap S (.lst vs) := ⟨lv, acc.toList, c, rv, by rw [hS]⟩
          have f3 : g2.G S = none ∧ g2.ow S = none ∧ Fo S = none := G3.free fS.1
          exact ⟨.ref S, upd H2 S (.lst vs), Inv.put I3 fS new, rfl, q (.ref S) _ g2 (G3.fresh fS.1) E3 ⟨S, _, rfl, upd_same, ⟨vs, rfl, rd⟩, f3.1, f3.2.1, f3.2.2⟩⟩
        · cases e1
end
end LB

namespace LB
open PySem L2 PyProof.Rows

/-! ### [e for t in src if c] -/
def restR (vs : List Nat) (ρ0 ρ : List Sl) : List Sl := vs.foldl (fun ρ i => match ρ0[i]? with | some s => ρ.set i s | none => ρ) ρ
def Sl.isOwn : Sl → Bool
  | .own _ => true
  | _ => false
def mayWipe (vs : List Nat) (ρ : List Sl) : Bool := vs.all fun i => match ρ[i]? with | some s => !s.isOwn | none => false
def lcL (t : Tg) (vs : List Nat) (c : Mo Bool) (e : Mo D) : List D → List D → Mo (List D)
  | acc, [] => .ret acc
  | acc, d :: ds => fun m => match bindT t d (wipeR vs m.ρ) with
    | none => .no
    | some ρ => match c { m with ρ := ρ } with
      | .ok true m => match e m with
        | .ok y m => if acc.length < sizeLine then lcL t vs c e (acc ++ [y]) ds m else .no
        | _ => .no
      | .ok false m => lcL t vs c e acc ds m
      | _ => .no
def lcM (src : Mo (List D)) (t : Tg) (vs : List Nat) (c : Mo Bool) (e : Mo D) : Mo Ob := src.bind fun ds m =>
  if mayWipe vs m.ρ = true ∧ (∀ j ∈ t.slots, j ∈ vs) then (lcL t vs c e [] ds m).bind fun out m2 => .ok (.lst out) { m2 with ρ := restR vs m.ρ m2.ρ } else .no

theorem restR_len : ∀ {vs : List Nat} {ρ0 ρ : List Sl}, (restR vs ρ0 ρ).length = ρ.length
  | [], _, _ => rfl
  | v :: vs, ρ0, ρ => by
    show (restR vs ρ0 (match ρ0[v]? with | some s => ρ.set v s | none => ρ)).length = _
    rw [restR_len]
    cases ρ0[v]? with
    | none => rfl
    | some s => exact List.length_set
theorem restR_at : ∀ {vs : List Nat} {ρ0 ρ : List Sl} {j : Nat} {s : Sl}, mayWipe vs ρ0 = true → (restR vs ρ0 ρ)[j]? = some s → (j ∈ vs ∧ ρ0[j]? = some s) ∨ (j ∉ vs ∧ ρ[j]? = some s)
  | [], _, ρ, j, s, _, h => .inr ⟨by simp, h⟩
  | v :: vs, ρ0, ρ, j, s, mw, h => by
    have h : (restR vs ρ0 (match ρ0[v]? with | some s => ρ.set v s | none => ρ))[j]? = some s := h
    have mw' : (match ρ0[v]? with | some s => !s.isOwn | none => false) = true ∧ mayWipe vs ρ0 = true := by
      unfold mayWipe at mw ⊢
      simpa only [List.all_cons, Bool.and_eq_true] using mw
    cases e : ρ0[v]? with
    | none => rw [e] at mw'; exact absurd mw'.1 (by simp)
    | some s0 =>
      rw [e] at h
      rcases restR_at mw'.2 h with ⟨i, h⟩ | ⟨n, h⟩
      · exact .inl ⟨List.mem_cons_of_mem _ i, h⟩
      · have h : (ρ.set v s0)[j]? = some s := h
        by_cases z : v = j
        · subst z
          have lt : v < ρ.length := by
            have q := (List.getElem?_eq_some_iff.mp h).1
            simpa using q
          rw [List.getElem?_set_self lt] at h
          exact .inl ⟨List.mem_cons_self, by rw [e]; exact h⟩
        · rw [List.getElem?_set_ne z] at h
          exact .inr ⟨by simp only [List.mem_cons, not_or]; exact ⟨fun e => z e.symm, n⟩, h⟩
theorem wipe_at (σ : L2.St) {j : Nat} : ∀ {vs : List Nat}, j ∉ vs → (wipe σ vs)[j]? = σ[j]?
  | [], _ => rfl
  | v :: vs, h => by
    rw [List.mem_cons, not_or] at h
    show ((wipe σ vs).set v none)[j]? = _
    rw [List.getElem?_set_ne (fun z => h.1 z.symm), wipe_at σ h.2]
theorem wipe_eq {σ σ' : L2.St} {vs : List Nat} (hl : σ'.length = σ.length) (h : ∀ j, j ∉ vs → σ'[j]? = σ[j]?) : wipe σ' vs = wipe σ vs := by
  induction vs generalizing σ σ' with
  | nil => exact List.ext_getElem? fun j => h j (by simp)
  | cons v vs ih =>
    refine List.ext_getElem? fun j => ?_
    show ((wipe σ' vs).set v none)[j]? = ((wipe σ vs).set v none)[j]?
    have l1 : (wipe σ' vs).length = (wipe σ vs).length := by rw [wipe_length, wipe_length, hl]
    by_cases z : v = j
    · subst z
      by_cases lt : v < (wipe σ vs).length
      · rw [List.getElem?_set_self lt, List.getElem?_set_self (by rw [l1]; exact lt)]
      · rw [List.getElem?_eq_none (by simp only [List.length_set]; rw [l1]; exact Nat.le_of_not_lt lt), List.getElem?_eq_none (by simpa using lt)]
    · rw [List.getElem?_set_ne z, List.getElem?_set_ne z]
      by_cases w : j ∈ vs
      · have key : ∀ (τ : L2.St) {ws : List Nat}, j ∈ ws → (wipe τ ws)[j]? = if j < τ.length then some none else none := fun τ {ws} hw => by
          induction ws with
          | nil => cases hw
          | cons u us ihu =>
            show ((wipe τ us).set u none)[j]? = _
            by_cases y : u = j
            · subst y
              by_cases lt : u < τ.length
              · rw [List.getElem?_set_self (by rw [wipe_length]; exact lt), if_pos lt]
              · rw [List.getElem?_eq_none (by simp only [List.length_set]; rw [wipe_length]; exact Nat.le_of_not_lt lt), if_neg lt]
            · rw [List.getElem?_set_ne y]
              rcases List.mem_cons.mp hw with q | q
              · exact absurd q.symm y
              · exact ihu q
        rw [key σ' w, key σ w, hl]
      · rw [wipe_at σ' w, wipe_at σ w]
        exact h j (by rw [List.mem_cons, not_or]; exact ⟨fun y => z y.symm, w⟩)
section
variable {Z : Stc} {Fo : Hp} {W : WX} {g g' : Gh} {m m' : Mst} {σ σ' : L2.St} {H : Hp} {N N' : Nat} {X : Cx} {vs : List Nat}
theorem Good.wiped (G : Good Z Fo g m σ' H) (e : wipe σ' vs = wipe σ vs) : Good Z Fo g { m with ρ := wipeR vs m.ρ } (wipe σ vs) H := by
  refine ⟨G.s, by show (wipeR vs m.ρ).length = _; rw [wipeR_len, G.len, ← e, wipe_length], fun j s q => ?_⟩
  rcases wipeR_at q with rfl | ⟨n, q⟩
  · trivial
  · have x := G.sl j s q
    have y : (wipe σ vs)[j]? = σ'[j]? := by rw [← e, wipe_at σ' n]
    cases s with
    | un => trivial
    | va d => obtain ⟨v, q1, q2⟩ := x; exact ⟨v, y.trans q1, q2⟩
    | own o => obtain ⟨a, h, q1, q2⟩ := x; exact ⟨a, h, y.trans q1, q2⟩
theorem Good.rested {g0 : Gh} {m0 : Mst} {H0 : Hp} {Fo0 : Hp} (G0 : Good Z Fo0 g0 m0 σ H0) (mw : mayWipe vs m0.ρ = true) (M : Mor g0.G g.G g0.μ g.μ m0.S.length m.S.length) (G : Good Z Fo g m σ' H) (e : wipe σ' vs = wipe σ vs) : Good Z Fo g { m with ρ := restR vs m0.ρ m.ρ } σ H := by
  refine ⟨G.s, by show (restR vs m0.ρ m.ρ).length = _; rw [restR_len, G.len, ← wipe_length σ vs, ← e, wipe_length], fun j s q => ?_⟩
  rcases restR_at mw q with ⟨i, q⟩ | ⟨n, q⟩
  · have x := G0.sl j s q
    have no : s.isOwn = false := by
      unfold mayWipe at mw
      have z := List.all_eq_true.mp mw j i
      rw [q] at z
      simpa using z
    cases s with
    | un => trivial
    | va d => obtain ⟨v, q1, q2⟩ := x; exact ⟨v, q1, q2.mor M⟩
    | own o => cases no
  · have x := G.sl j s q
    have y : σ[j]? = σ'[j]? := by rw [← wipe_at σ n, ← e, wipe_at σ' n]
    cases s with
    | un => trivial
    | va d => obtain ⟨v, q1, q2⟩ := x; exact ⟨v, y.trans q1, q2⟩
    | own o => obtain ⟨a, h, q1, q2⟩ := x; exact ⟨a, h, y.trans q1, q2⟩
theorem Ext.chg {p : Addr} {o o' : HO} (E : Ext (upd Fo p o) g N g' N') : Ext (upd Fo p o') g N g' N' := ⟨E.mor, fun a u h => (E.new a u h).imp_right fun z => by
  by_cases y : a = p
  · subst y; rw [upd_same] at z; cases z
  · rw [upd_ne y] at z ⊢; exact z⟩
theorem Good.grow {p : Addr} {o : HO} (G : Good Z Fo g m σ H) (e : H p = some o) (w : g.ow p = none) : Good Z (upd Fo p o) g m σ H := by
  refine ⟨⟨G.s.gh, fun a u q => ?_, G.s.st, fun a u q => ?_⟩, G.len, G.sl⟩
  · by_cases y : a = p
    · subst y; rw [upd_same] at q; rw [e]; exact q
    · rw [upd_ne y] at q; exact G.s.fo a u q
  · obtain ⟨y1, y2, y3⟩ := G.s.ow a u q
    exact ⟨y1, by rw [upd_ne (fun z => by rw [z, w] at q; cases q)]; exact y2, y3⟩

def gTx (Z : Stc) (t : Tg) : TG := fun v σ H Q => ∃ Fo, gT Z Fo t v σ H Q
theorem pg_x {tg : Expr} {t : Tg} (h : ∀ Fo, PG X tg (gT Z Fo t)) : PG X tg (gTx Z t) := ⟨fun pins s σ H v u Q I r ⟨Fo, k⟩ => (h Fo).run pins s σ H v u Q I r k⟩
abbrev noX : WX := fun _ _ _ _ => False
theorem Pg.nox {α β : Type} {R : Gh → Nat → Hp → α → β → Prop} {Q : β → Hp → Prop} {r : Res α} {a : α} {m : Mst} (e : r = .ok a m) (h : ∀ v H g', Good Z Fo g' m σ H → Ext Fo g N g' m.S.length → R g' m.S.length H a v → Q v H) : Pg Z Fo noX R g N σ Q r := by rw [e]; exact h
theorem rd_lc {wi : TI} {src : Mo (List D)} {t : Tg} {c : Mo Bool} {e : Mo D} {Q : V → Hp → Prop} (hw : ∀ σ H R, tI Z Fo W src σ H R → wi σ H R) (h : tN Z Fo W (lcM src t vs c e) σ H Q) : tLc wi (gTx Z t) (tTx Z noX c) (tEx Z noX e) vs σ H Q := by
  obtain ⟨g, m, G, h⟩ := h
  refine hw _ _ _ ⟨g, m, G, (Pg.bind (R := RI Z) h).imp fun J H1 ⟨ds, g1, m1, G1, E1, hd, _, q⟩ D hD => ?_⟩
  by_cases mw : mayWipe vs m1.ρ = true ∧ (∀ j ∈ t.slots, j ∈ vs)
  case neg => rw [if_neg mw] at q; exact q.elim
  rw [if_pos mw] at q
  obtain ⟨mw, sub⟩ := mw
  obtain ⟨f1, f2, f3⟩ := G1.free hD
  -- the state at a turn
  let Sta : Nat → Hp → Prop := fun i H => ∃ g' m' σ' acc av, Good Z (upd Fo D (.lst av)) g' m' σ' H ∧ wipe σ' vs = wipe σ vs ∧ Ext (upd Fo D (.lst [])) g1 m1.S.length g' m'.S.length ∧ DVs Z g'.G g'.μ m'.S.length acc av ∧
    Pg Z Fo W (RN Z Fo) g1 m1.S.length σ Q ((lcL t vs c e acc (ds.drop i) m').bind fun out m2 => .ok (.lst out) { m2 with ρ := restR vs m1.ρ m2.ρ })
  refine ⟨fun i n H => n = ds.length - i ∧ i ≤ ds.length ∧ Sta i H, ⟨ds.length, by simp, Nat.zero_le _, g1, m1, σ, [], [], G1.under hD, rfl, .rfl', .nil, by simpa using q⟩, ?_⟩
  rintro i n H2 ⟨rfl, le, g2, m2, σ2, acc, av, G2, w2, E2, rs, q2⟩
  by_cases lt : i < ds.length
  · obtain ⟨go, yl⟩ := hd.go _ i g2 m2 σ2 H2 ds[i] G2 E2.mor (List.getElem?_eq_getElem lt)
    obtain ⟨_, yl⟩ := hd.go _ i g2 _ _ H2 ds[i] (G2.wiped w2) E2.mor (List.getElem?_eq_getElem lt)
    rw [List.drop_eq_getElem_cons lt] at q2
    simp only [lcL] at q2
    refine .inr ⟨go, Sta (i + 1), fun H' s => ⟨ds.length - (i + 1), by omega, rfl, lt, s⟩, fun x H3 y => ?_⟩
    obtain ⟨g3, G3, E3, dv⟩ := yl x H3 y
    cases e1 : bindT t ds[i] (wipeR vs m2.ρ) with
    | none => simp only [e1] at q2; exact q2.elim
    | some ρ =>
      simp only [e1] at q2
      refine ⟨_, g3, _, ds[i], ρ, G3, dv, e1, fun σ4 G4 k4 l4 => ?_⟩
      have w4 : wipe σ4 vs = wipe σ vs := by
        have z : wipe σ4 vs = wipe (wipe σ vs) vs := wipe_eq l4 fun j hj => k4 j fun z => hj (sub j z)
        rw [z]
        exact wipe_eq (wipe_length σ vs) fun j hj => wipe_at σ hj
      refine ⟨w4, _, g3, _, G4, ?_⟩
      cases e2 : c { m2 with ρ := ρ } with
      | no => simp only [e2] at q2; exact q2.elim
      | exc x m3 => simp only [e2] at q2; exact q2.elim
      | ok b m3 =>
        simp only [e2] at q2
        refine Pg.nox (R := RB) rfl fun b' H5 g5 G5 E5 eb => ?_
        have eb : b = b' := eb
        subst eb
        have E5' : Ext (upd Fo D (.lst [])) g1 m1.S.length g5 m3.S.length := (E2.trans E3.chg).trans E5.chg
        cases b with
        | false => exact ⟨g5, m3, σ4, acc, av, G5, w4, E5', rs.mor ((E3.trans E5).mor), q2⟩
        | true =>
          simp only [if_true]
          cases e3 : e m3 with
          | no => simp only [e3] at q2; exact q2.elim
          | exc x m4 => simp only [e3] at q2; exact q2.elim
          | ok y m4 =>
            simp only [e3] at q2
            refine ⟨_, g5, m3, G5, Pg.nox (R := RD Z) e3 fun yv H6 g6 G6 E6 ry => ?_⟩
            have hp : H6 D = some (.lst av) := G6.s.fo D _ upd_same
            have al : acc.length = av.length := rs.length
            by_cases sz : acc.length < sizeLine
            · rw [if_pos sz] at q2
              have E6' : Ext (upd Fo D (.lst [])) g1 m1.S.length g6 m4.S.length := E5'.trans E6.chg
              obtain ⟨G7, gp, ow⟩ := G6.lift f3 (E6'.chg) f1 (o' := .lst (av ++ [yv]))
              refine ⟨av, hp, by omega, g6, m4, σ4, acc ++ [y], av ++ [yv], G7.grow upd_same ow, w4, E6', ?_, q2⟩
              exact (rs.mor ((E3.trans E5).trans E6).mor).append (.cons ry .nil)
            · rw [if_neg sz] at q2; exact q2.elim
  · have e2 : i = ds.length := by omega
    subst e2
    rw [List.drop_length] at q2
    refine .inl ⟨hd.stop _ g2 m2 σ2 H2 G2 E2.mor, ?_⟩
    have hp : H2 D = some (.lst av) := G2.s.fo D _ upd_same
    have gw : g2.G D = none ∧ g2.ow D = none := (G2.lift f3 E2.chg f1 (o' := .lst av)).2
    exact q2 (.ref D) H2 g2 (G1.rested mw E2.mor (G2.weak (sub_upd f3)) w2) (E2.weak (sub_upd f3)) ⟨D, _, rfl, hp, ⟨av, rfl, rs⟩, gw.1, gw.2, f3⟩
section
variable {elt tg iter : Expr} {ifs : List Expr} {scope : Scope} {own : List (Str × Nat)} {pos : Pos} {src : Mo (List D)} {t : Tg} {c : Mo Bool} {e : Mo D}
theorem de_lc (hc : X.calm = true) (hN : X.N.Nodup) (hi : PI X tg iter (tI Z Fo W src)) (ok : BlkOk X.N X.env.scope scope own)
    (hg : ∀ (s : Shared) (H : Hp) (C : Addr) (cl : List (Str × Addr)) (fp : List Addr) (Fo : Hp), PG (X.blk s H scope (compEnvC scope cl C X.env) fp) tg (gT Z Fo t)) (ht : ∀ (s : Shared) (H : Hp) (C : Addr) (cl : List (Str × Addr)) (fp : List Addr), PTs (X.blk s H scope (compEnvC scope cl C X.env) fp) ifs (tTx Z noX c))
    (he : ∀ (s : Shared) (H : Hp) (C : Addr) (cl : List (Str × Addr)) (fp : List Addr) (Fo : Hp), PE (X.blk s H scope (compEnvC scope cl C X.env) fp) elt (tE Z Fo noX e)) (hs : ∀ x, foldedSetIterable iter X.env x = pure x) :
    PE X (.ListComp elt [⟨tg, iter, ifs, 0⟩] scope pos) (tN Z Fo W (lcM src t (own.map (·.2)) c e)) :=
  (pe_lc hc hN hi ok (fun s H C cl fp => pg_x (hg s H C cl fp)) ht (fun s H C cl fp => pe_x (he s H C cl fp)) hs).imp fun _ _ _ h => rd_lc (fun _ _ _ h => h) h
theorem ds_setLc0 {i : Nat} {y : Str} {py spos : Pos} (hc : X.calm = true) (hN : X.N.Nodup) (hy : X.N[i]? = some y) (hyl : X.env.scope.names.lookup y = some .local)
    (hsw : swapsWith (.ListComp elt [⟨tg, iter, ifs, 0⟩] scope pos) (some (.Name y py)) spos.line X.env = pure true) (hi : PI X tg iter (tI Z Fo W src)) (ok : BlkOk X.N X.env.scope scope own)
    (hg : ∀ (s : Shared) (H : Hp) (C : Addr) (cl : List (Str × Addr)) (fp : List Addr) (Fo : Hp), PG (X.blk s H scope (compEnvC scope cl C X.env) fp) tg (gT Z Fo t)) (ht : ∀ (s : Shared) (H : Hp) (C : Addr) (cl : List (Str × Addr)) (fp : List Addr), PTs (X.blk s H scope (compEnvC scope cl C X.env) fp) ifs (tTx Z noX c))
    (he : ∀ (s : Shared) (H : Hp) (C : Addr) (cl : List (Str × Addr)) (fp : List Addr) (Fo : Hp), PE (X.blk s H scope (compEnvC scope cl C X.env) fp) elt (tE Z Fo noX e)) (hs : ∀ x, foldedSetIterable iter X.env x = pure x) :
    PS X (.Assign [.Name y py] (.ListComp elt [⟨tg, iter, ifs, 0⟩] scope pos) spos) (tAsg (tN Z Fo W (lcM src t (own.map (·.2)) c e)) (gName i)) :=
  ps_imp (ps_setLc hc hN hy hyl hsw hi ok (fun s H C cl fp => pg_x (hg s H C cl fp)) ht (fun s H C cl fp => pe_x (he s H C cl fp)) hs) fun E σ H h => rd_lc (fun _ _ _ h => h) h
theorem ds_setLc {i : Nat} {y : Str} {py spos : Pos} (hc : X.calm = true) (hN : X.N.Nodup) (hy : X.N[i]? = some y) (hyl : X.env.scope.names.lookup y = some .local)
    (hsw : swapsWith (.ListComp elt [⟨tg, iter, ifs, 0⟩] scope pos) (some (.Name y py)) spos.line X.env = pure true) (hi : PI X tg iter (tI Z Fo W src)) (ok : BlkOk X.N X.env.scope scope own)
    (hg : ∀ (s : Shared) (H : Hp) (C : Addr) (cl : List (Str × Addr)) (fp : List Addr) (Fo : Hp), PG (X.blk s H scope (compEnvC scope cl C X.env) fp) tg (gT Z Fo t)) (ht : ∀ (s : Shared) (H : Hp) (C : Addr) (cl : List (Str × Addr)) (fp : List Addr), PTs (X.blk s H scope (compEnvC scope cl C X.env) fp) ifs (tTx Z noX c))
    (he : ∀ (s : Shared) (H : Hp) (C : Addr) (cl : List (Str × Addr)) (fp : List Addr) (Fo : Hp), PE (X.blk s H scope (compEnvC scope cl C X.env) fp) elt (tE Z Fo noX e)) (hs : ∀ x, foldedSetIterable iter X.env x = pure x) :
    PS X (.Assign [.Name y py] (.ListComp elt [⟨tg, iter, ifs, 0⟩] scope pos) spos) (tS Z Fo W (ownM i (lcM src t (own.map (·.2)) c e))) :=
  ds_own (ps_imp (ps_setLc hc hN hy hyl hsw hi ok (fun s H C cl fp => pg_x (hg s H C cl fp)) ht (fun s H C cl fp => pe_x (he s H C cl fp)) hs) fun E σ H h => rd_lc (fun _ _ _ h => h) h)
end
end
end LB

namespace LB
open PySem L2 PyProof.Rows

/-! ### what a function leaves behind in the store -/
mutual
def D.low (n : Nat) : D → Bool
  | .ref k => decide (k < n)
  | .tup ds => D.lows n ds
  | .ktp ds => D.lows n ds
  | .lst ds => D.lows n ds
  | .dct _ kvs => D.lowk n kvs
  | .kdc kvs => D.lowe n kvs
  | .exf _ _ d => D.low n d
  | _ => true
def D.lows (n : Nat) : List D → Bool
  | [] => true
  | d :: r => D.low n d && D.lows n r
def D.lowk (n : Nat) : List (D × D) → Bool
  | [] => true
  | (_, d) :: r => D.low n d && D.lowk n r
def D.lowe (n : Nat) : List (Str × D) → Bool
  | [] => true
  | (_, d) :: r => D.low n d && D.lowe n r
end
def Ob.low (n : Nat) : Ob → Bool
  | .lst ds => D.lows n ds
  | .dct _ kvs => D.lowk n kvs
def SO.low (n : Nat) : SO → Bool
  | .ob o => o.low n
  | .ins _ fs => D.lowe n fs
/-- the store as the caller finds it: what it cannot reach is dropped -/
def trunc (n : Nat) (ds : List D) (S : List SO) : List SO := if ((S.take n).all (SO.low n) && D.lows n ds) = true then S.take n else S
section
variable {Z : Stc} {G : Hp} {μ : Nat → Addr} {N n : Nat}
mutual
theorem DV.lowTo (le : n ≤ N) : ∀ {d : D} {v : V}, DV Z G μ N d v → d.low n = true → DV Z G μ n d v
  | _, _, .non, _ => .non
  | _, _, .bl b, _ => .bl b
  | _, _, .int i, _ => .int i
  | _, _, .str x, _ => .str x
  | _, _, .tup h r, b => .tup h (DVs.lowTo le r (by simpa [D.low] using b))
  | _, _, .ktp h r, b => .ktp h (DVs.lowTo le r (by simpa [D.low] using b))
  | _, _, .lst h r, b => .lst h (DVs.lowTo le r (by simpa [D.low] using b))
  | _, _, .dk h r, b => .dk h (DVk.lowTo le r (by simpa [D.low] using b))
  | _, _, .dt h r, b => .dt h (DVt.lowTo le r (by simpa [D.low] using b))
  | _, _, .kd h r, b => .kd h (DVe.lowTo le r (by simpa [D.low] using b))
  | _, _, .ref h, b => .ref (by simpa [D.low] using b)
  | _, _, .glo h, _ => .glo h
  | _, _, .exo h k, _ => .exo h k
  | _, _, .exf h k l r, b => .exf h k l (DV.lowTo le r (by simpa [D.low] using b))
theorem DVs.lowTo (le : n ≤ N) : ∀ {d : List D} {v : List V}, DVs Z G μ N d v → D.lows n d = true → DVs Z G μ n d v
  | _, _, .nil, _ => .nil
  | _, _, .cons h r, b => by
    rw [D.lows, Bool.and_eq_true] at b
    exact .cons (DV.lowTo le h b.1) (DVs.lowTo le r b.2)
theorem DVk.lowTo (le : n ≤ N) : ∀ {d : List (D × D)} {v : List (Key × V)}, DVk Z G μ N d v → D.lowk n d = true → DVk Z G μ n d v
  | _, _, .nil, _ => .nil
  | _, _, .cons k h r, b => by
    rw [D.lowk, Bool.and_eq_true] at b
    exact .cons k (DV.lowTo le h b.1) (DVk.lowTo le r b.2)
theorem DVt.lowTo (le : n ≤ N) : ∀ {d : List (D × D)} {v : List (List Key × V)}, DVt Z G μ N d v → D.lowk n d = true → DVt Z G μ n d v
  | _, _, .nil, _ => .nil
  | _, _, .cons k h r, b => by
    rw [D.lowk, Bool.and_eq_true] at b
    exact .cons k (DV.lowTo le h b.1) (DVt.lowTo le r b.2)
theorem DVe.lowTo (le : n ≤ N) : ∀ {d : List (Str × D)} {v : List DictEntry}, DVe Z G μ N d v → D.lowe n d = true → DVe Z G μ n d v
  | _, _, .nil, _ => .nil
  | _, _, .cons k h r, b => by
    rw [D.lowe, Bool.and_eq_true] at b
    exact .cons k (DV.lowTo le h b.1) (DVe.lowTo le r b.2)
end
theorem FsR.lowTo {g : Gh} (le : n ≤ N) : ∀ {fs : List (Str × D)} {fv : List (Str × V)}, FsR Z g N fs fv → D.lowe n fs = true → FsR Z g n fs fv
  | [], [], _, _ => trivial
  | (_, _) :: _, (_, _) :: _, ⟨h1, h2, h3⟩, b => by
    rw [D.lowe, Bool.and_eq_true] at b
    exact ⟨h1, h2.lowTo le b.1, FsR.lowTo le h3 b.2⟩
  | [], _ :: _, h, _ => h.elim
  | _ :: _, [], h, _ => h.elim
theorem FsR.same {g g' : Gh} (eG : g'.G = g.G) (eμ : g'.μ = g.μ) : ∀ {fs : List (Str × D)} {fv : List (Str × V)}, FsR Z g N fs fv → FsR Z g' N fs fv
  | [], [], _ => trivial
  | (_, _) :: _, (_, _) :: _, ⟨h1, h2, h3⟩ => ⟨h1, by rw [eG, eμ]; exact h2, FsR.same eG eμ h3⟩
  | [], _ :: _, h => h.elim
  | _ :: _, [], h => h.elim
theorem ObR.lowTo {g : Gh} {o : Ob} {h : HO} (le : n ≤ N) (x : ObR Z g N o h) (b : o.low n = true) : ObR Z g n o h := by
  cases o with
  | lst ds => obtain ⟨vs, rfl, r⟩ := x; exact ⟨vs, rfl, r.lowTo le b⟩
  | dct t kvs => cases t <;> (obtain ⟨vs, rfl, r⟩ := x; exact ⟨vs, rfl, r.lowTo le b⟩)
end
section
variable {Z : Stc} {Fo Fo' : Hp} {W : WX} {g g' : Gh} {m m' : Mst} {σ : L2.St} {H H' : Hp} {N n : Nat} {X : Cx} {S S' : List SO}
/-- the store's end dropped -/
theorem GoodS.cut (G : GoodS Z Fo g S H) (le : n ≤ S.length) (b : (S.take n).all (SO.low n) = true) : GoodS Z Fo { g with ow := fun a => match g.ow a with | some (.lo k) => if k < n then some (.lo k) else none | some (.di k) => if k < n then some (.di k) else none | w => w } (S.take n) H := by
  have ln : (S.take n).length = n := by rw [List.length_take]; omega
  have lo : ∀ {a : Addr} {k : Nat}, g.ow a = some (.lo k) → k < n → (match g.ow a with | some (.lo k) => if k < n then some (Ow.lo k) else none | some (.di k) => if k < n then some (.di k) else none | w => w) = some (.lo k) := fun {a k} e h => by rw [e]; exact if_pos h
  have di : ∀ {a : Addr} {k : Nat}, g.ow a = some (.di k) → k < n → (match g.ow a with | some (.lo k) => if k < n then some (Ow.lo k) else none | some (.di k) => if k < n then some (.di k) else none | w => w) = some (.di k) := fun {a k} e h => by rw [e]; exact if_pos h
  refine ⟨G.gh, G.fo, fun k o e => ?_, fun a w e => ?_⟩
  · have kl : k < n := by have q := (List.getElem?_eq_some_iff.mp e).1; omega
    have e' : S[k]? = some o := by rw [List.getElem?_take_of_lt kl] at e; exact e
    have ob : o.low n = true := List.all_eq_true.mp b o (List.mem_of_getElem? e)
    have x := G.st k o e'
    rw [ln]
    cases o with
    | ob o => obtain ⟨h, x1, x2, x3⟩ := x; exact ⟨h, lo x1 kl, x2, x3.lowTo le ob⟩
    | ins c fs => obtain ⟨C, dx, fs', x1, x2, x3, x4, x5, x6⟩ := x; exact ⟨C, dx, fs', lo x1 kl, x2, x3, x4, di x5 kl, by refine FsR.same (g := g) ?_ ?_ (FsR.lowTo le x6 ob) <;> rfl⟩
  · have e' : (match g.ow a with | some (.lo k) => if k < n then some (Ow.lo k) else none | some (.di k) => if k < n then some (.di k) else none | w => w) = some w := e
    cases q : g.ow a with
    | none => rw [q] at e'; cases e'
    | some u => exact G.ow a u q
/-- what a function is asked: its end, an exception's -/
def PgF (Z : Stc) (Fo : Hp) (E : XK) (g : Gh) (n : Nat) (Q : V → Hp → Prop) : Res D → Prop
  | .ok d m => ∀ v H g', GoodS Z Fo g' m.S H → Ext Fo g n g' m.S.length → DV Z g'.G g'.μ m.S.length d v → Q v H
  | .exc x m => ∀ cls dd H g', GoodS Z Fo g' m.S H → Ext Fo g n g' m.S.length → ExcR Z g' m.S.length x cls dd H → E cls dd H
  | .no => False
abbrev Fn := List D → Mo D
def spF (Z : Stc) (k : Nat) (F : Fn) : Sp := fun vs H Q E => ∃ Fo g S ds, vs.length = k ∧ GoodS Z Fo g S H ∧ DVs Z g.G g.μ S.length ds vs ∧ PgF Z Fo E g S.length Q (F ds ⟨[], S⟩)
/-- the same, called from a body -/
def callM (F : Fn) (f : Mo (List D)) : Mo D := f.bind fun ds m => match F ds ⟨[], m.S⟩ with
  | .ok d m' => .ok d ⟨m.ρ, m'.S⟩
  | .exc x m' => .exc x ⟨m.ρ, m'.S⟩
  | .no => .no
/-- what the body's own slots hold is not the callee's -/
def Gh.lend (g : Gh) : Gh := { g with ow := fun a => match g.ow a with | some (.sl _) => none | w => w }
def Gh.back (g g' : Gh) : Gh := { g' with ow := fun a => match g.ow a with | some (.sl i) => some (.sl i) | _ => g'.ow a }
open Classical in
noncomputable def lendH (g : Gh) (Fo H : Hp) : Hp := fun a => if (∃ i, g.ow a = some (.sl i)) then H a else Fo a
theorem GoodS.lend (G : GoodS Z Fo g S H) : GoodS Z (lendH g Fo H) g.lend S H := by
  have ow : ∀ {a : Addr} {w : Ow}, g.lend.ow a = some w → g.ow a = some w ∧ ∀ i, w ≠ .sl i := fun {a w} e => by
    have e' : (match g.ow a with | some (.sl _) => none | w => w) = some w := e
    cases q : g.ow a with
    | none => rw [q] at e'; cases e'
    | some u =>
      rw [q] at e'
      cases u with
      | sl i => cases e'
      | lo k => cases e'; exact ⟨rfl, fun _ z => nomatch z⟩
      | di k => cases e'; exact ⟨rfl, fun _ z => nomatch z⟩
  have lo : ∀ {a : Addr} {k : Nat}, g.ow a = some (.lo k) → g.lend.ow a = some (.lo k) := fun {a k} e => by
    show (match g.ow a with | some (.sl _) => none | w => w) = _
    rw [e]
  have di : ∀ {a : Addr} {k : Nat}, g.ow a = some (.di k) → g.lend.ow a = some (.di k) := fun {a k} e => by
    show (match g.ow a with | some (.sl _) => none | w => w) = _
    rw [e]
  refine ⟨G.gh, fun a o e => ?_, fun k o e => ?_, fun a w e => ?_⟩
  · unfold lendH at e
    split at e
    · exact e
    · exact G.fo a o e
  · have x := G.st k o e
    cases o with
    | ob o => obtain ⟨h, x1, x2, x3⟩ := x; exact ⟨h, lo x1, x2, x3⟩
    | ins c fs => obtain ⟨C, dx, fs', x1, x2, x3, x4, x5, x6⟩ := x; exact ⟨C, dx, fs', lo x1, x2, x3, x4, di x5, FsR.same (g := g) (g' := g.lend) rfl rfl x6⟩
  · obtain ⟨e1, e2⟩ := ow e
    obtain ⟨y1, y2, y3⟩ := G.ow a w e1
    refine ⟨y1, ?_, y3⟩
    unfold lendH
    rw [if_neg (fun ⟨i, z⟩ => by rw [z] at e1; cases e1; exact e2 i rfl)]
    exact y2
theorem Good.back {m2 : Mst} (G : Good Z Fo g m σ H) (G' : GoodS Z (lendH g Fo H) g' m2.S H') (E : Ext (lendH g Fo H) g.lend m.S.length g' m2.S.length) :
    Good Z Fo (g.back g') ⟨m.ρ, m2.S⟩ σ H' ∧ Ext Fo g m.S.length (g.back g') m2.S.length ∧ (∀ a, (∀ i, g.ow a ≠ some (.sl i)) → (g.back g').ow a = g'.ow a) := by
  have lH : ∀ {a : Addr} {i : Nat}, g.ow a = some (.sl i) → ∃ o, H a = some o ∧ lendH g Fo H a = some o := fun {a i} e => by
    obtain ⟨_, _, o, h⟩ := G.s.ow a _ e
    refine ⟨o, h, ?_⟩
    unfold lendH
    rw [if_pos ⟨i, e⟩]
    exact h
  have nsl : ∀ {a : Addr} {w : Ow}, g'.ow a = some w → ∀ i, g.ow a ≠ some (.sl i) := fun {a w} e i z => by
    obtain ⟨o, _, h⟩ := lH z
    have q := (G'.ow a w e).2.1
    rw [h] at q; cases q
  have bk : ∀ {a : Addr}, (∀ i, g.ow a ≠ some (.sl i)) → (g.back g').ow a = g'.ow a := fun {a} n => by
    show (match g.ow a with | some (.sl i) => some (Ow.sl i) | _ => g'.ow a) = _
    cases q : g.ow a with
    | none => rfl
    | some u => cases u with
      | sl i => exact absurd q (n i)
      | lo k => rfl
      | di k => rfl
  have bs : ∀ {a : Addr} {i : Nat}, g.ow a = some (.sl i) → (g.back g').ow a = some (.sl i) := fun {a i} e => by
    show (match g.ow a with | some (.sl i) => some (Ow.sl i) | _ => g'.ow a) = _
    rw [e]
  have fo : ∀ a o, Fo a = some o → lendH g Fo H a = some o := fun a o e => by
    unfold lendH
    split
    · exact G.s.fo a o e
    · exact e
  have E2 : Ext Fo g m.S.length (g.back g') m2.S.length := ⟨E.mor, fun a o e => (E.new a o e).imp_right fun z => by
    cases q : Fo a with
    | none => rfl
    | some u => rw [fo a u q] at z; cases z⟩
  have old : ∀ a o, (∃ i, g.ow a = some (.sl i)) → H a = some o → H' a = some o := fun a o ⟨i, e⟩ h => by
    obtain ⟨u, h1, h2⟩ := lH e
    rw [h] at h1; cases h1
    exact G'.fo a _ h2
  refine ⟨⟨⟨G'.gh, fun a o e => G'.fo a o (fo a o e), fun k o e => ?_, fun a w e => ?_⟩, G.len, fun j s e => ?_⟩, E2, fun a n => bk n⟩
  · have x := G'.st k o e
    cases o with
    | ob o => obtain ⟨h, x1, x2, x3⟩ := x; exact ⟨h, (bk (nsl x1)).trans x1, x2, x3⟩
    | ins c fs => obtain ⟨C, dx, fs', x1, x2, x3, x4, x5, x6⟩ := x; exact ⟨C, dx, fs', (bk (nsl x1)).trans x1, x2, x3, x4, (bk (nsl x5)).trans x5, FsR.same (g := g') (g' := g.back g') rfl rfl x6⟩
  · by_cases c : ∃ i, g.ow a = some (.sl i)
    · obtain ⟨i, q⟩ := c
      obtain ⟨y1, y2, u, y3⟩ := G.s.ow a _ q
      refine ⟨?_, y2, u, old a u ⟨i, q⟩ y3⟩
      cases z : g'.G a with
      | none => exact z
      | some o =>
        rcases E.new a o z with h | h
        · have h : g.G a = some o := h
          rw [y1] at h; cases h
        · obtain ⟨u, _, h2⟩ := lH q
          rw [h] at h2; cases h2
    · have n : ∀ i, g.ow a ≠ some (.sl i) := fun i z => c ⟨i, z⟩
      rw [bk n] at e
      obtain ⟨y1, y2, y3⟩ := G'.ow a w e
      refine ⟨y1, ?_, y3⟩
      cases q : Fo a with
      | none => rfl
      | some u => rw [fo a u q] at y2; cases y2
  · have x := G.sl j s e
    cases s with
    | un => trivial
    | va d => obtain ⟨v, q1, q2⟩ := x; exact ⟨v, q1, q2.mor E.mor⟩
    | own o => obtain ⟨a, h, q1, q2, q3, q4⟩ := x; exact ⟨a, h, q1, bs q2, old a h ⟨j, q2⟩ q3, q4.ext E2⟩
theorem rd_call {F : Fn} {k : Nat} {Q : V → Hp → Prop} {ds : List D} {vs : List V} (G : Good Z Fo g m σ H) (r : DVs Z g.G g.μ m.S.length ds vs) (hk : ds.length = k)
    (h : Pg Z Fo W (RD Z) g m.S.length σ Q (match F ds ⟨[], m.S⟩ with | .ok d m' => .ok d ⟨m.ρ, m'.S⟩ | .exc x m' => .exc x ⟨m.ρ, m'.S⟩ | .no => .no)) : spF Z k F vs H Q (WE W σ) := by
  refine ⟨lendH g Fo H, g.lend, m.S, ds, by rw [← r.length, hk], G.s.lend, r, ?_⟩
  cases e : F ds ⟨[], m.S⟩ with
  | no => rw [e] at h; exact h
  | ok d m2 =>
    rw [e] at h
    intro v H' g' G' E rd
    obtain ⟨G2, E2, _⟩ := G.back G' E
    exact h v H' _ G2 E2 rd
  | exc x m2 =>
    rw [e] at h
    intro cls dd H' g' G' E rx
    obtain ⟨G2, E2, _⟩ := G.back G' E
    obtain ⟨C, h1, h2, h3⟩ := rx
    exact h cls dd H' _ G2 E2 ⟨C, h1, h2, XfR.imp (g := g') (g2 := g.back g') (fun _ _ z => z) (fun _ _ _ z => z) h3⟩

/-! ### a function's promise -/
structure RoomG (k : Nat) (A : Around) : Prop where
  room : Room k A
  gd : A.guards = some []
theorem RoomG.deeper {k : Nat} {A : Around} (r : RoomG (k + 1) A) (env : Env) : RoomG k (A.deeper env) := ⟨r.room.deeper env, r.gd⟩
theorem RoomG.mono {j k : Nat} {A : Around} (r : RoomG k A) (h : j ≤ k) : RoomG j A := ⟨r.room.mono h, r.gd⟩
structure FnG (P : Program) (w : World) (K : PySem.W.Frag) (mg : Str → Option Value) (base : Heap) (k : Nat) (f : Addr) (fd : FuncData) (ps : List Str) (sp : Sp) : Prop where
  len : ∀ vs H Q E, sp vs H Q E → vs.length = ps.length
  go : ∀ (A : Around) (outer : List Env) (s : Shared) (H : Hp) (args : Args) (us : List Value) (vs : List V) (Q : VK) (E : XK), RoomG k A → Env0 P w K mg base A outer s H → BindsTo s fd args (ps.zip us) → Vals vs us → sp vs H Q E →
    codeAny (model P w) A (.call (.ref f) args) (CR (L2.CX P w) outer P w H s Q E) s
theorem FnG.mono {P : Program} {w : World} {K : PySem.W.Frag} {mg : Str → Option Value} {base : Heap} {j k : Nat} {f : Addr} {fd : FuncData} {ps : List Str} {sp : Sp} (F : FnG P w K mg base j f fd ps sp) (h : j ≤ k) :
    FnG P w K mg base k f fd ps sp := ⟨F.len, fun A outer s H args us vs Q E r => F.go A outer s H args us vs Q E (r.mono h)⟩
def bodyF (n : Nat) (b : Mo Fl) : Fn := fun ds m => match b ⟨ds.map .va ++ List.replicate (n - ds.length) .un, m.S⟩ with
  | .ok (.rt d) m' => .ok d ⟨[], trunc m.S.length [d] m'.S⟩
  | .ok .nx m' => .ok .non ⟨[], trunc m.S.length [] m'.S⟩
  | .exc x m' => .exc x ⟨[], trunc m.S.length (x.fs.map (·.2)) m'.S⟩
  | _ => .no
theorem trunc_ok {ds : List D} (G : GoodS Z Fo g' S' H) (M : Ext Fo g n g' S'.length) : ∃ g2, GoodS Z Fo g2 (trunc n ds S') H ∧ Ext Fo g n g2 (trunc n ds S').length ∧ (∀ {d v}, d ∈ ds → DV Z g'.G g'.μ S'.length d v → DV Z g2.G g2.μ (trunc n ds S').length d v) ∧ ∀ a o, g'.G a = some o → g2.G a = some o := by
  unfold trunc
  by_cases c : ((S'.take n).all (SO.low n) && D.lows n ds) = true
  · rw [if_pos c]
    rw [Bool.and_eq_true] at c
    have le := M.mor.n
    have ln : (S'.take n).length = n := by rw [List.length_take]; omega
    refine ⟨_, G.cut le c.1, ⟨⟨M.mor.g, M.mor.m, by rw [ln]; exact Nat.le_refl _⟩, M.new⟩, fun {d v} hd r => ?_, fun _ _ z => z⟩
    have bd : d.low n = true := by
      have z := c.2
      clear c M G
      induction ds with
      | nil => cases hd
      | cons a l ih =>
        rw [D.lows, Bool.and_eq_true] at z
        rcases List.mem_cons.mp hd with q | q
        · rw [q]; exact z.1
        · exact ih q z.2
    rw [ln]
    exact r.lowTo le bd
  · rw [if_neg c]
    exact ⟨g', G, M, fun _ r => r, fun _ _ z => z⟩
theorem va_at {ds : List D} {vs : List V} (r : DVs Z g.G g.μ N ds vs) : ∀ {j : Nat} {s : Sl} {k : Nat}, (ds.map Sl.va ++ List.replicate k Sl.un)[j]? = some s → s = .un ∨ ∃ d v, s = .va d ∧ vs[j]? = some v ∧ DV Z g.G g.μ N d v := fun {j s k} e => by
  by_cases lt : j < ds.length
  · rw [List.getElem?_append_left (by simpa using lt), List.getElem?_map] at e
    cases q : ds[j]? with
    | none => rw [q] at e; cases e
    | some d =>
      rw [q] at e
      cases e
      obtain ⟨v, ev, rv⟩ := r.get q
      exact .inr ⟨d, v, rfl, ev, rv⟩
  · rw [List.getElem?_append_right (by simpa using Nat.le_of_not_lt lt), List.getElem?_replicate] at e
    split at e
    · cases e; exact .inl rfl
    · cases e
theorem entry_good {Nn : List Str} {ds : List D} {vs : List V} (G : GoodS Z Fo g S H) (r : DVs Z g.G g.μ S.length ds vs) : Good Z Fo g ⟨ds.map .va ++ List.replicate (Nn.length - ds.length) .un, S⟩ (L2.start Nn vs) H := by
  refine ⟨G, by simp [L2.start, r.length], fun j s e => ?_⟩
  rcases va_at r e with rfl | ⟨d, v, rfl, ev, rv⟩
  · trivial
  · refine ⟨v, ?_, rv⟩
    have lt : j < vs.length := (List.getElem?_eq_some_iff.mp ev).1
    unfold L2.start
    rw [List.getElem?_append_left (by simpa using lt), List.getElem?_map, ev]
    rfl
theorem FsR.of_trunc {ds : List D} {g2 : Gh} {n2 n1 : Nat} (k : ∀ {d v}, d ∈ ds → DV Z g'.G g'.μ n1 d v → DV Z g2.G g2.μ n2 d v) : ∀ {fs : List (Str × D)} {fv : List (Str × V)}, (∀ p ∈ fs, p.2 ∈ ds) → FsR Z g' n1 fs fv → FsR Z g2 n2 fs fv
  | [], [], _, _ => trivial
  | (_, _) :: _, (_, _) :: _, h, ⟨h1, h2, h3⟩ => ⟨h1, k (h _ List.mem_cons_self) h2, FsR.of_trunc k (fun p hp => h p (List.mem_cons_of_mem _ hp)) h3⟩
  | [], _ :: _, _, h => h.elim
  | _ :: _, [], _, h => h.elim
/-- a def by its body -/
theorem fn_at {P : Program} {w : World} {K : PySem.W.Frag} {mg : Str → Option Value} {base : Heap} {k : Nat} {f : Addr} {name qual : Str} {params : Arguments} {body : List Stmt} {scope : Scope} {dV kV doc pm cdv ct oc : Value} {an od : Option Addr}
    {osl : Array (Option Value)} {Nn ps : List Str} {b : Mo Fl} (Z : Stc) (lk : K.lookup f = some ⟨oc, od, .func (PySem.W.fnOf name qual params body scope dV kV doc pm an cdv ct), osl⟩) (hcd : PySem.W.codeIn K cdv qual = true) (Sc : FnScope Nn ps scope)
    (hb : ∀ (A : Around) (outer : List Env) (s : Shared) (H : Hp) (E : XK) (Fo : Hp), RoomG k (A.deeper (envOfC qual scope s.heap.objs.size f cdv)) →
      PSs (cxOf (L2.CX P w) P w K mg base Nn qual scope f cdv A outer s H E) body (tS Z Fo (fun cls dd _ H => E cls dd H) b)) :
    FnG P w K mg base (k + 1) f (PySem.W.fnOf name qual params body scope dV kV doc pm an cdv ct) ps (spF Z ps.length (bodyF Nn.length b)) := by
  refine ⟨fun vs H Q E ⟨_, _, _, _, h, _⟩ => h, fun A outer s H args us vs Q E rm e0 bt r ⟨Fo, g, S, ds, hl, G, rs, hq⟩ => ?_⟩
  have KI : K.In s.heap := e0.mod.kin.keeps fun b o e => (e0.bs b o e).1
  have nl : s.heap.NoLimit := e0.mod.nolimit.keeps fun b o e => (e0.bs b o e).1
  have kinds : ∀ y ∈ ps.zip us, scope.names.lookup y.1 = some .local ∨ (scope.names.lookup y.1 = some .cell ∧ ((cellsFrom (s.heap.objs.size + 1) scope.names []).lookup y.1).isSome = true) := fun ⟨n, v⟩ hy =>
    (Sc.par n (List.of_mem_zip hy).1).imp_right fun q => ⟨q, PySem.W.cellsFrom_some _ _ _ (.inl q)⟩
  refine codeAny_call_function rm.room.depth (KI _ _ lk) rfl Sc.co Sc.gen rfl (PySem.W.codeRec_of KI hcd) (bt _ _ _ _ (wpAny_newFunctionEnv_cells Sc.kind kinds fun env he s1 x => ?_))
  subst he
  refine ⟨nl.keeps x.toInCall.keep, codeAny_func ?_⟩
  have I0 := inv_start (CX := L2.CX P w) (E := E) Sc rm.room.hd e0 hl r x
  have G0 := entry_good (Nn := Nn) G rs
  refine wpAny_mono ((hb A outer s H E Fo (rm.deeper _)).run [] s1 (L2.start Nn vs) H { nx := fun _ H' => Q .non H', rt := Q } I0 ⟨g, _, G0, ?_⟩) (fun fl s' hs => ?_) fun e s' hs => hs
  · unfold bodyF at hq
    dsimp only at hq
    cases e : b ⟨ds.map .va ++ List.replicate (Nn.length - ds.length) .un, S⟩ with
    | no => rw [e] at hq; exact hq
    | exc x m2 =>
      rw [e] at hq
      intro cls dd σ' H' g' G' E' rx
      obtain ⟨g2, G2, E2, k2, k3⟩ := trunc_ok (ds := x.fs.map (·.2)) G'.s E'
      obtain ⟨C, h1, h2, h3⟩ := rx
      exact hq cls dd H' g2 G2 E2 ⟨C, h1, h2, XfR.imp k3 (fun d hd v r => k2 hd r) h3⟩
    | ok fl m2 =>
      rw [e] at hq
      cases fl with
      | nx =>
        intro σ' H' g' G' E'
        obtain ⟨g2, G2, E2, _⟩ := trunc_ok (ds := []) G'.s E'
        exact hq .non H' g2 G2 E2 .non
      | rt d =>
        intro v σ' H' g' G' E' rd
        obtain ⟨g2, G2, E2, k2, _⟩ := trunc_ok (ds := [d]) G'.s E'
        exact hq v H' g2 G2 E2 (k2 List.mem_cons_self rd)
      | bk => exact hq.elim
      | ct => exact hq.elim
  · have fin : ∀ {σ' : L2.St} {H' : Hp} {v : V} {u : Value}, Inv (cxOf (L2.CX P w) P w K mg base Nn qual scope f cdv A outer s H E) [] σ' H' s' → RelV v u → Q v H' → CE outer P w H s Q u s' :=
      fun {σ' H' v u} J rv q => ⟨v, H', J.os, J.bare, J.base, J.hok, rv, q⟩
    cases fl with
    | ret u => obtain ⟨v, σ', H', J, rv, q⟩ := hs; exact fin J rv q
    | next => obtain ⟨σ', H', J, q⟩ := hs; exact fin (v := .non) (u := .none) J rfl q
    | brk => obtain ⟨_, _, _, q⟩ := hs; exact q.elim
    | cont => obtain ⟨_, _, _, q⟩ := hs; exact q.elim
/-! ### the call -/
section
variable {k : Nat} {f : Addr} {fd : FuncData} {ps : List Str} {F : Fn} {x : Str} {p pos : Pos} {e : Expr} {es : List Expr} {a : Mo (List D)}
theorem run_g {pins : List (Addr × Obj)} {s : Shared} {Q : VK} {us : List Value} {vs : List V} {sp : Sp} {E : XK} (T : FnG X.prog X.w X.K X.mg X.base k f fd ps sp) (rm : RoomG k X.A) (hb : Binds X.K fd ps []) (hx : PassesAt (L2.CX X.prog X.w) X σ E)
    (I : Inv X pins σ H s) (r : Vals vs us) (h : sp vs H Q E) : wpAny (model X.prog X.w) X.A (call (.ref f) us) (EP X pins σ Q) X.xe s := by
  have bt := hb s us I.kIn (by rw [List.append_nil, ← r.length]; exact T.len _ _ _ _ h)
  rw [List.append_nil] at bt
  refine wpAny_call (codeAny_mono (T.go X.A X.stack s H ⟨us, []⟩ us vs Q E rm I.env0 bt r h) fun z s' hq => ?_)
  match z, hq with
  | .error e, hq => exact hx pins H s e s' I hq
  | .ok (.ret u), hq => exact I.after hq
theorem de_call (T : FnG X.prog X.w X.K X.mg X.base k f fd ps (spF Z ps.length F)) (rm : RoomG k X.A) (hg : Gl X x) (hm : X.mg x = some (.ref f)) (hk : PySem.W.keepIn X.K (.ref f) = true) (hb : Binds X.K fd ps []) (hx : ∀ σ, PassesAt (L2.CX X.prog X.w) X σ (WE W σ))
    (ha : PA X (e :: es) (tL Z Fo W a)) (hl : ∀ m ds m', a m = .ok ds m' → ds.length = ps.length) (hdb : (x == ("__debug__" : Str)) = false) (he : starEach (e :: es) X.env = (false, eval e X.env) :: starEach es X.env) (hpl : (backTo pos (starEach es X.env)).any (·.1) = false) :
    PE X (.Call (.Name x p) (e :: es) [] pos) (tE Z Fo W (callM F a)) := by
  refine ⟨fun pins s σ H Q I ⟨g, m, G, h⟩ => wpAny_Call_Name_kw (ld_glob I hg hm (PySem.W.callWith_K (h₀ := X.base) I.ok.mod.kin hk (thn (ha.run pos pins s σ H (fun vs H1 => spF Z ps.length F vs H1 Q (WE W σ)) I ⟨g, m, G, ?_⟩) fun us s1 ⟨vs, H1, I1, r, q⟩ => ⟨I1.kIn, run_g T rm hb (hx σ) I1 r q⟩) he hpl) hdb)⟩
  refine (Pg.bind (R := RDs Z) h).imp fun vs H1 ⟨ds, g1, m1, G1, E1, r, e1, q⟩ => rd_call G1 r (hl _ _ _ e1) q
theorem de_call0 (T : FnG X.prog X.w X.K X.mg X.base k f fd ps (spF Z ps.length F)) (rm : RoomG k X.A) (hg : Gl X x) (hm : X.mg x = some (.ref f)) (hk : PySem.W.keepIn X.K (.ref f) = true) (hb : Binds X.K fd ps []) (hx : ∀ σ, PassesAt (L2.CX X.prog X.w) X σ (WE W σ))
    (hl : ps.length = 0) (hdb : (x == ("__debug__" : Str)) = false) : PE X (.Call (.Name x p) [] [] pos) (tE Z Fo W (callM F (.ret []))) :=
  ⟨fun pins s σ H Q I ⟨g, m, G, h⟩ => wpAny_Call_Name_kw (ld_glob I hg hm (PySem.W.callWith_K0 I.kIn hk (run_g (us := []) (vs := []) T rm hb (hx σ) I .nil (rd_call (ds := []) G .nil (by rw [hl]; rfl) h))) hdb)⟩
end
end
end LB

namespace LB
open PySem L2 PyProof.Rows
section
variable {Z : Stc} {Fo : Hp} {W : WX} {g g' : Gh} {m m' : Mst} {σ : L2.St} {H : Hp} {N N' : Nat} {X : Cx}

/-! ### something new, given to the store -/
def Gh.lay (g : Gh) (N : Nat) (p : Addr) : Gh := { g with μ := fun n => if n = N then p else g.μ n, ow := fun b => if b = p then some (.lo N) else g.ow b }
theorem lay_ext {p : Addr} : Ext Fo g N (g.lay N p) (N + 1) := ⟨⟨fun _ _ h => h, fun n h => if_neg (Nat.ne_of_lt h), Nat.le_succ _⟩, fun _ _ h => .inl h⟩
theorem Good.lay {p : Addr} {h : HO} {o : Ob} (G : Good Z Fo g m σ H) (e : H p = some h) (r : ObR Z g m.S.length o h) (n : g.G p = none) (w : g.ow p = none) (f : Fo p = none) :
    Good Z Fo (g.lay m.S.length p) { m with S := m.S ++ [.ob o] } σ H := by
  have E : Ext Fo g m.S.length (g.lay m.S.length p) (m.S.length + 1) := lay_ext
  have ln : (m.S ++ [SO.ob o]).length = m.S.length + 1 := by simp
  have nw : ∀ {a : Addr} {u : Ow}, g.ow a = some u → (g.lay m.S.length p).ow a = some u := fun {a u} q => by
    show (if a = p then some (Ow.lo m.S.length) else g.ow a) = some u
    rw [if_neg (fun z => by rw [z, w] at q; cases q)]; exact q
  have mu : ∀ {k : Nat}, k < m.S.length → (g.lay m.S.length p).μ k = g.μ k := fun {k} h => if_neg (Nat.ne_of_lt h)
  refine ⟨⟨G.s.gh, G.s.fo, fun k s q => ?_, fun a u q => ?_⟩, G.len, fun j s q => ?_⟩
  · show SoR Z _ (m.S ++ [SO.ob o]).length H k s
    rw [ln]
    have q : (m.S ++ [SO.ob o])[k]? = some s := q
    by_cases lt : k < m.S.length
    · rw [List.getElem?_append_left lt] at q
      have x := G.s.st k s q
      cases s with
      | ob o' => obtain ⟨h', x1, x2, x3⟩ := x; exact ⟨h', by rw [mu lt]; exact nw x1, by rw [mu lt]; exact x2, x3.ext E⟩
      | ins c fs => obtain ⟨C, dx, fs', x1, x2, x3, x4, x5, x6⟩ := x; exact ⟨C, dx, fs', by rw [mu lt]; exact nw x1, x2, by rw [mu lt]; exact x3, by rw [mu lt]; exact x4, nw x5, x6.ext E⟩
    · rw [List.getElem?_append_right (Nat.le_of_not_lt lt)] at q
      have z : k = m.S.length := by
        have := (List.getElem?_eq_some_iff.mp q).1
        simp at this
        omega
      subst z
      simp at q
      subst q
      have mp : (g.lay m.S.length p).μ m.S.length = p := if_pos rfl
      exact ⟨h, by rw [mp]; exact if_pos rfl, by rw [mp]; exact e, r.ext E⟩
  · have q' : (if a = p then some (Ow.lo m.S.length) else g.ow a) = some u := q
    by_cases z : a = p
    · subst z; exact ⟨n, f, h, e⟩
    · rw [if_neg z] at q'; exact G.s.ow a u q'
  · show SlR Z _ (m.S ++ [SO.ob o]).length σ H j s
    rw [ln]
    have x := G.sl j s q
    cases s with
    | un => trivial
    | va d => obtain ⟨v, q1, q2⟩ := x; exact ⟨v, q1, q2.ext E⟩
    | own o' => obtain ⟨a, h', q1, q2, q3, q4⟩ := x; exact ⟨a, h', q1, nw q2, q3, q4.ext E⟩
def alM (f : Mo Ob) : Mo D := f.bind fun o m => .ok (.ref m.S.length) { m with S := m.S ++ [.ob o] }
theorem rd_al {f : Mo Ob} {Q : V → Hp → Prop} (h : tE Z Fo W (alM f) σ H Q) : tN Z Fo W f σ H Q := by
  obtain ⟨g, m, G, h⟩ := h
  refine ⟨g, m, G, (Pg.bind (R := RN Z Fo) h).imp fun v H' ⟨o, g', m', G', E, ⟨p, u, ev, e, r, n, w, fo⟩, _, q⟩ => ?_⟩
  subst ev
  have mp : (g'.lay m'.S.length p).μ m'.S.length = p := if_pos rfl
  have G2 := G'.lay e r n w fo
  have ln : (m'.S ++ [SO.ob o]).length = m'.S.length + 1 := by simp
  have dv : DV Z (g'.lay m'.S.length p).G (g'.lay m'.S.length p).μ (m'.S.length + 1) (.ref m'.S.length) (.ref p) := by
    have z := DV.ref (Z := Z) (G := (g'.lay m'.S.length p).G) (μ := (g'.lay m'.S.length p).μ) (Nat.lt_succ_self m'.S.length)
    rw [mp] at z
    exact z
  exact q (.ref p) H' _ G2 (by show Ext Fo g' m'.S.length _ (m'.S ++ [SO.ob o]).length; rw [ln]; exact lay_ext) (by show DV Z _ _ (m'.S ++ [SO.ob o]).length _ _; rw [ln]; exact dv)
theorem pe_al {e : Expr} {f : Mo Ob} (h : PE X e (tN Z Fo W f)) : PE X e (tE Z Fo W (alM f)) := h.imp fun _ _ _ q => rd_al q

/-! ### a[k] = v -/
def putI : Ob → D → D → Option Ob
  | .lst ds, .int i, v => (ixN ds.length i).map fun j => .lst (ds.set j v)
  | .dct false kvs, k, v => (keyD k).bind fun _ => if kvs.length < sizeLine then some (.dct false (putKD kvs k v)) else none
  | .dct true kvs, k, v => (keyT k).bind fun _ => if kvs.length < sizeLine then some (.dct true (putTD kvs k v)) else none
  | _, _, _ => none
def rPut (Z : Stc) (Fo : Hp) : TSet := fun x y w H Q => ∃ g m σ p o o' d e dv, Good Z Fo g m σ H ∧ PlV σ g.μ x p ∧ p.get m = some o ∧ PV Z g m.S.length H d y ∧ DV Z g.G g.μ m.S.length e w ∧ putI o d e = some o' ∧ dv = e ∧ ∀ H', Good Z Fo g (p.set m o') σ H' → Q H'
theorem put_rule (hu : X.A.units + 1 < cLine) : PSet X (rPut Z Fo) := by
  intro pins s σ H x y w ov iv u Q I ro ri rw' ⟨g, m, σ', p, o, o', d, e, _, G, pv, pg, pd, de, hp, _, q⟩
  obtain ⟨a, h, rfl, ha, r, k⟩ := G.pl pg pv
  match o, d, hp with
  | .lst ds, .int i, hp =>
    obtain ⟨vs, rfl, dv⟩ := r
    cases hj : ixN ds.length i with
    | none => simp only [putI, hj] at hp; cases hp
    | some j =>
      simp only [putI, hj, Option.map_some, Option.some.injEq] at hp
      subst hp
      exact set_list pins s σ H _ y w ov iv u Q I ro ri rw' ⟨a, vs, i, j, rfl, pd.int, ha, by rw [← dv.length]; exact hj, q _ (k _ _ ⟨_, rfl, dv.set j de⟩)⟩
  | .dct false kvs, d, hp =>
    obtain ⟨ks, rfl, dv⟩ := r
    cases hk : keyD d with
    | none => simp only [putI, hk] at hp; cases hp
    | some k' =>
      by_cases c : kvs.length < sizeLine
      · simp only [putI, hk, Option.bind_some, if_pos c, Option.some.injEq] at hp
        subst hp
        cases ro
        have ey := pd.key hk
        subst ey
        exact d_setItem hu I (DPut.k (k := k') ha (by rw [← dv.length]; exact c)) ri rw' fun s' I' => ⟨_, I', q _ (k _ _ ⟨_, rfl, dv.put hk de⟩)⟩
      · simp only [putI, hk, Option.bind_some, if_neg c] at hp; cases hp
  | .dct true kvs, d, hp =>
    obtain ⟨ks, rfl, dv⟩ := r
    cases hk : keyT d with
    | none => simp only [putI, hk] at hp; cases hp
    | some k' =>
      by_cases c : kvs.length < sizeLine
      · simp only [putI, hk, Option.bind_some, if_pos c, Option.some.injEq] at hp
        subst hp
        cases ro
        obtain ⟨b, ey, hb⟩ := pd.keyT G hk
        subst ey
        exact d_setItem hu I (DPut.t (k := k') ha hb (by rw [← dv.length]; exact c)) ri rw' fun s' I' => ⟨_, I', q _ (k _ _ ⟨_, rfl, dv.put hk de⟩)⟩
      · simp only [putI, hk, Option.bind_some, if_neg c] at hp; cases hp
/-- an expression that is never a cut -/
def noCut : Expr → Bool
  | .Slice .. => false
  | _ => true
def setiE (a : Opd) (k v : Mo D) : Mo D := v.bind fun e m => (a.pre m).bind fun x => Mo.bind k fun d m => match a.pl x m with
  | some p => match p.get m with
    | some o => match putI o (look m d) e with
      | some o' => .ok .non (p.set m o')
      | none => .no
    | none => .no
  | none => .no
def setiM (a : Opd) (k v : Mo D) : Mo Fl := dropM (setiE a k v)
theorem drop_in {E : Ends} {f : Mo D} (h : PoS Z Fo W g N E (dropM f m)) : Pg Z Fo W (RD Z) g N σ (fun _ H => E.nx σ H) (f m) :=
  (PoS.ahead (R := RD Z) h).imp fun v H' ⟨d, g', m', G', _, r, _, q⟩ => q σ H' g' G' .rfl'
theorem ds_seti {eo ei ev : Expr} {a : Opd} {k v : Mo D} {spos pos : Pos} (hu : X.A.units + 1 < cLine) (ho : PE X eo (tO Z Fo W a)) (hi : PE X ei (tE Z Fo W k)) (hv : PE X ev (tE Z Fo W v)) (hsl : noCut ei = true)
    (hs : swapsWithSole [.Subscript eo ei spos] ev pos.line X.env = pure false) : PS X (.Assign [.Subscript eo ei spos] ev pos) (tS Z Fo W (setiM a k v)) := by
  have pg : PG X (.Subscript eo ei spos) (gSub (tO Z Fo W a) (tE Z Fo W k) (rPut Z Fo)) := pg_sub ho hi (put_rule hu) (fun u => by
    cases ei with
    | Slice => cases hsl
    | _ => rfl)
  refine ps_imp (ps_asg hv pg hs (by cases ev <;> rfl) rfl) fun E σ H ⟨g, m, G, h⟩ => ⟨g, m, G, (Pg.bind (R := RD Z) (drop_in (σ := σ) h)).imp fun w H1 ⟨e, g1, m1, G1, E1, re, _, q⟩ => ?_⟩
  refine opd_pl_pass G1 q fun x H2 d g2 m2 G2 E2 p pv => ⟨g2, m2, G2, (Pg.bind (R := RD Z) p).imp fun y H3 ⟨dk, g3, m3, G3, E3, rk, _, p3⟩ => ?_⟩
  cases e1 : a.pl d m3 with
  | none => simp only [e1] at p3; exact p3.elim
  | some pl =>
    cases e2 : pl.get m3 with
    | none => simp only [e1, e2] at p3; exact p3.elim
    | some o =>
      cases e3 : putI o (look m3 dk) e with
      | none => simp only [e1, e2, e3] at p3; exact p3.elim
      | some o' =>
        simp only [e1, e2, e3] at p3
        exact ⟨g3, m3, σ, pl, o, o', look m3 dk, e, e, G3, pv g3 m3 H3 pl G3 E3 e1, e2, pv_look G3 rk, re.ext (E2.trans E3), e3, rfl, fun H' G' => p3 .non H' g3 G' (by rw [Pl.set_len]; exact .rfl') .non⟩

/-! ### a.f -/
theorem ins_at {n : Nat} {c : Str} {fs : List (Str × D)} (G : Good Z Fo g m σ H) (e : m.S[n]? = some (.ins c fs)) : ∃ C dx fs', Z.mg c = some (.ref C) ∧ InsOk Z.K C ∧ H (g.μ n) = some (.ins C dx fs') ∧ FsR Z g m.S.length fs fs' ∧ g.ow (g.μ n) = some (.lo n) ∧ H dx = some (.own (g.μ n)) ∧ g.ow dx = some (.di n) := by
  obtain ⟨C, dx, fs', x1, x2, x3, x4, x5, x6⟩ := G.s.st n _ e
  exact ⟨C, dx, fs', x2.1, x2.2, x3, x6, x1, x4, x5⟩
theorem FsR.look {g : Gh} {N : Nat} {f : Str} : ∀ {fs : List (Str × D)} {fv : List (Str × V)}, FsR Z g N fs fv → match fs.lookup f with
    | some d => ∃ v, fv.lookup f = some v ∧ DV Z g.G g.μ N d v
    | none => fv.lookup f = none
  | [], [], _ => rfl
  | (x, d) :: r, (y, v) :: s, ⟨h1, h2, h3⟩ => by
    subst h1
    have ih := FsR.look (f := f) h3
    rw [List.lookup_cons, List.lookup_cons]
    cases q : f == x with
    | true => exact ⟨v, rfl, h2⟩
    | false => exact ih
  | [], _ :: _, h => h.elim
  | _ :: _, [], h => h.elim
def putFD (f : Str) (d : D) : List (Str × D) → List (Str × D)
  | [] => [(f, d)]
  | (x, e) :: r => if x = f then (x, d) :: r else (x, e) :: putFD f d r
theorem FsR.put {f : Str} {d : D} {v : V} (r : DV Z g.G g.μ N d v) : ∀ {fs : List (Str × D)} {fv : List (Str × V)}, FsR Z g N fs fv → FsR Z g N (putFD f d fs) (putF f v fv)
  | [], [], _ => ⟨rfl, r, trivial⟩
  | (x, e) :: l, (y, w) :: s, ⟨h1, h2, h3⟩ => by
    subst h1
    show FsR Z g N (if x = f then (x, d) :: l else (x, e) :: putFD f d l) (if x = f then (x, v) :: s else (x, w) :: putF f v s)
    by_cases c : x = f
    · rw [if_pos c, if_pos c]; exact ⟨rfl, r, h3⟩
    · rw [if_neg c, if_neg c]; exact ⟨rfl, h2, FsR.put r h3⟩
  | [], _ :: _, h => h.elim
  | _ :: _, [], h => h.elim
theorem FsR.length {g : Gh} {N : Nat} : ∀ {fs : List (Str × D)} {fv : List (Str × V)}, FsR Z g N fs fv → fs.length = fv.length
  | [], [], _ => rfl
  | (_, _) :: r, (_, _) :: s, ⟨_, _, h3⟩ => by rw [List.length_cons, List.length_cons, FsR.length h3]
  | [], _ :: _, h => h.elim
  | _ :: _, [], h => h.elim
theorem PV.ref {n : Nat} {v : V} (r : PV Z g N H (.ref n) v) : v = .ref (g.μ n) ∧ n < N := by
  rcases r with r | ⟨a, h, o, _, _, e, _⟩
  · cases r with
    | ref h => exact ⟨rfl, h⟩
  · cases o <;> cases e
def fldM (f : Str) (d : D) : Mo D := fun m => match d with
  | .ref n => match m.S[n]? with
    | some (.ins _ fs) => match fs.lookup f with
      | some d => .ok d m
      | none => .no
    | _ => .no
  | _ => .no
theorem fld_at {d : D} {f : Str} {r : Res D} (h : fldM f d m = r) (ne : r ≠ .no) : ∃ n c fs e, d = .ref n ∧ m.S[n]? = some (.ins c fs) ∧ fs.lookup f = some e ∧ r = .ok e m := by
  subst h
  unfold fldM at ne ⊢
  split at ne
  · rename_i n
    split at ne
    · rename_i c fs e1
      split at ne
      · rename_i e e2
        exact ⟨n, c, fs, e, rfl, e1, e2, by simp only [e1, e2]⟩
      · exact absurd rfl ne
    · exact absurd rfl ne
  · exact absurd rfl ne
theorem Pg.ne {α β : Type} {R : Gh → Nat → Hp → α → β → Prop} {Q : β → Hp → Prop} {r : Res α} (h : Pg Z Fo W R g N σ Q r) : r ≠ .no := fun z => by rw [z] at h; exact h
theorem de_fld {ea : Expr} {a : Opd} {f : Str} {pos : Pos} (hK : X.K = Z.K) (hf : f ∈ fldNames) (ha : PE X ea (tO Z Fo W a)) (hb : attributeBase ea f X.env (eval ea X.env) = eval ea X.env) : PE X (.Attribute ea f pos) (tE Z Fo W (opd1 a (fldM f))) :=
  (pe_fld ha hb).imp fun σ H Q ⟨g, m, G, h⟩ => rd_opd1 G h fun g' m' H' x d G' _ px p => by
    obtain ⟨n, c, fs, e, rfl, e1, e2, e3⟩ := fld_at rfl p.ne
    rw [e3] at p
    obtain ⟨C, dx, fs', _, io, hi, fr, _⟩ := ins_at G' e1
    have q := fr.look (f := f)
    rw [e2] at q
    obtain ⟨v, l, dv⟩ := q
    exact ⟨_, C, dx, fs', v, px.ref.1, hi, hK ▸ io.cls, hK ▸ io.no f hf, l, p _ _ _ G' .rfl' dv⟩
/-- the object of the store at n is changed -/
theorem Good.putf {n : Nat} {c : Str} {fs fs2 : List (Str × D)} {C dx : Addr} {fv fv2 : List (Str × V)} (G : Good Z Fo g m σ H) (e : m.S[n]? = some (.ins c fs)) (hi : H (g.μ n) = some (.ins C dx fv)) (r : FsR Z g m.S.length fs2 fv2) :
    Good Z Fo g { m with S := m.S.set n (.ins c fs2) } σ (upd H (g.μ n) (.ins C dx fv2)) := by
  obtain ⟨C', dx', fv', mc, io, hi', fr, w1, hd, w2⟩ := ins_at G e
  rw [hi] at hi'
  cases hi'
  obtain ⟨c1, c2, c3, c4, c5⟩ := G.chg (h' := .ins C dx fv2) w1
  have ln : (m.S.set n (.ins c fs2)).length = m.S.length := List.length_set
  have dn : dx ≠ g.μ n := fun z => by rw [z, w1] at w2; cases w2
  refine ⟨⟨c1, c2, fun k q e' => ?_, c5⟩, G.len, fun j s' e' => ?_⟩
  · have e' : (m.S.set n (.ins c fs2))[k]? = some q := e'
    show SoR Z g (m.S.set n (.ins c fs2)).length _ k q
    rw [ln]
    by_cases z : n = k
    · subst z
      rw [List.getElem?_set_self (List.getElem?_eq_some_iff.mp e).1] at e'
      cases e'
      exact ⟨C, dx, fv2, w1, ⟨mc, io⟩, upd_same, by rw [upd_ne dn]; exact hd, w2, r⟩
    · rw [List.getElem?_set_ne z] at e'
      exact c4 k q e' (fun y => by cases y; exact z rfl) (fun y => by cases y)
  · show SlR Z g (m.S.set n (.ins c fs2)).length σ _ j s'
    rw [ln]
    exact c3 j s' e' (fun y => by cases y)
def setfM (f : Str) (e d : D) : Mo D := fun m => match d with
  | .ref n => match m.S[n]? with
    | some (.ins c fs) => if fs.length < 1000 then .ok .non { m with S := m.S.set n (.ins c (putFD f e fs)) } else .no
    | _ => .no
  | _ => .no
theorem setf_at {d e : D} {f : Str} (ne : setfM f e d m ≠ .no) : ∃ n c fs, d = .ref n ∧ m.S[n]? = some (.ins c fs) ∧ fs.length < 1000 ∧ setfM f e d m = .ok .non { m with S := m.S.set n (.ins c (putFD f e fs)) } := by
  unfold setfM at ne ⊢
  split at ne
  · rename_i n
    split at ne
    · rename_i c fs e1
      split at ne
      · rename_i c1
        exact ⟨n, c, fs, rfl, e1, c1, by simp only [e1, if_pos c1]⟩
      · exact absurd rfl ne
    · exact absurd rfl ne
  · exact absurd rfl ne
theorem setf_go {d e : D} {f : Str} {x y : V} {Q : V → Hp → Prop} (G : Good Z Fo g m σ H) (px : PV Z g m.S.length H d x) (re : DV Z g.G g.μ m.S.length e y) (p : Pg Z Fo W (RD Z) g m.S.length σ Q (setfM f e d m)) :
    ∃ a C dx fv, x = .ref a ∧ H a = some (.ins C dx fv) ∧ InsOk Z.K C ∧ fv.length < 1000 ∧ Q .non (upd H a (.ins C dx (putF f y fv))) := by
  obtain ⟨n, c, fs, rfl, e1, lt, e3⟩ := setf_at p.ne
  rw [e3] at p
  obtain ⟨C, dx, fv, _, io, hi, fr, _⟩ := ins_at G e1
  refine ⟨_, C, dx, fv, px.ref.1, hi, io, by rw [← fr.length]; exact lt, p _ _ g (G.putf e1 hi (fr.put re)) (by show Ext Fo g _ g (m.S.set n _).length; rw [List.length_set]; exact .rfl') .non⟩
theorem de_setf {ea ev : Expr} {a : Opd} {f : Str} {v : Mo D} {apos pos : Pos} (hK : X.K = Z.K) (hf : f ∈ fldNames) (ha : PE X ea (tO Z Fo W a)) (hv : PE X ev (tE Z Fo W v)) (hs : swapsWith ev (some (.Attribute ea f apos)) pos.line X.env = pure false) :
    PS X (.Assign [.Attribute ea f apos] ev pos) (tS Z Fo W (dropM (v.bind fun e => opd1 a (setfM f e)))) :=
  ps_imp (ps_fld ha hv hs) fun E σ H ⟨g, m, G, h⟩ => ⟨g, m, G, (Pg.bind (R := RD Z) (drop_in (σ := σ) h)).imp fun w H1 ⟨e, g1, m1, G1, E1, re, _, q⟩ => rd_opd1 G1 q fun g' m' H' x d G' E2 px p => by
    obtain ⟨a, C, dx, fv, ex, hi, io, lt, q⟩ := setf_go G' px (re.ext E2) p
    exact ⟨a, C, dx, fv, ex, hi, hK ▸ io.cls, hK ▸ io.no f hf, lt, q⟩⟩
def insC (m : Mst) : D → Option Str
  | .ref n => match m.S[n]? with
    | some (.ins c _) => some c
    | _ => none
  | _ => none
def augfE (f : Str) (a : Opd) (v : Mo D) : Mo D := fun m => (a.pre m).bind fun x m => match a.get x m with
  | some d => (fldM f d m).bind fun old => Mo.bind v fun e m2 => match old, e with
    | .int i, .int j => if insC m2 d = insC m d then setfM f (.int (i + j)) d m2 else .no
    | _, _ => .no
  | none => .no
theorem de_augf {ea ev : Expr} {a : Opd} {f : Str} {v : Mo D} {apos pos : Pos} (hK : X.K = Z.K) (hf : f ∈ fldNames) (ha : PE X ea (tO Z Fo W a)) (hv : PE X ev (tE Z Fo W v)) :
    PS X (.AugAssign (.Attribute ea f apos) .Add ev pos) (tS Z Fo W (dropM (augfE f a v))) :=
  ps_imp (ps_fldaug ha hv in_add) fun E σ H ⟨g, m, G, h⟩ => by
    refine opd_pass G (drop_in (σ := σ) h) fun x H1 d0 g1 m1 G1 E1 p pv => ?_
    cases e0 : a.get d0 m1 with
    | none => simp only [e0] at p; exact p.elim
    | some d =>
      simp only [e0] at p
      have px := pv g1 m1 H1 d G1 .rfl' e0
      have ne : fldM f d m1 ≠ .no := fun z => by rw [z] at p; exact p
      obtain ⟨n, c, fs, old, rfl, e1, e2, e3⟩ := fld_at rfl ne
      rw [e3] at p
      obtain ⟨C, dx, fv, _, io, hi, fr, _⟩ := ins_at G1 e1
      have q := fr.look (f := f)
      rw [e2] at q
      obtain ⟨w, l, dv⟩ := q
      obtain ⟨ex, ltn⟩ := px.ref
      simp only [Res.bind_ok, Mo.bind_at] at p
      refine ⟨_, C, dx, fv, w, ex, hi, hK ▸ io.cls, hK ▸ io.no f hf, l, g1, m1, G1, (Pg.bind (R := RD Z) p).imp fun y H2 ⟨e, g2, m2, G2, E2, re, _, p2⟩ => ?_⟩
      match old, e, dv, re, p2 with
      | .int i, .int j, .int _, .int _, p2 =>
        refine ⟨i, j, rfl, rfl, ?_⟩
        have p2 : Pg Z Fo W (RD Z) g2 m2.S.length σ _ (if insC m2 (.ref n) = insC m1 (.ref n) then setfM f (.int (i + j)) (.ref n) m2 else .no) := p2
        by_cases cc : insC m2 (.ref n) = insC m1 (.ref n)
        · rw [if_pos cc] at p2
          obtain ⟨n2, c2, fs2, e4, e5, lt, e6⟩ := setf_at p2.ne
          cases e4
          have px2 : PV Z g2 m2.S.length H2 (.ref n) (.ref (g1.μ n)) := .inl ((DV.ref (Z := Z) (G := g1.G) (μ := g1.μ) ltn).ext E2)
          obtain ⟨a2, C2, dx2, fv2, ex2, hi2, io2, lt2, q2⟩ := setf_go G2 px2 (.int (i + j)) p2
          rw [ex] at *
          cases ex2
          obtain ⟨C3, dx3, fv3, mc3, io3, hi3, _⟩ := ins_at G2 e5
          obtain ⟨C4, dx4, fv4, mc4, _, hi4, _⟩ := ins_at G1 e1
          have ec : c2 = c := by
            have q1 : insC m2 (.ref n) = some c2 := by simp only [insC, e5]
            have q2 : insC m1 (.ref n) = some c := by simp only [insC, e1]
            rw [q1, q2] at cc
            exact Option.some.inj cc
          subst ec
          rw [mc3] at mc4
          cases mc4
          rw [hi] at hi4
          cases hi4
          have hmu : g2.μ n = g1.μ n := E2.mor.m n ltn
          rw [hmu, hi2] at hi3
          cases hi3
          exact ⟨dx2, fv2, hi2, lt2, q2⟩
        · rw [if_neg cc] at p2
          exact p2.elim
/-- name += e, whole numbers -/
def augM (i : Nat) (v : Mo D) : Mo Fl := fun m => match m.ρ[i]? with
  | some (.va (.int a)) => (v m).bind fun e m => match e with
    | .int b => setT (.nm i) (.int (a + b)) m
    | _ => .no
  | _ => .no
theorem ds_aug {i : Nat} {x : Str} {ev : Expr} {v : Mo D} {p pos : Pos} (hN : X.N.Nodup) (hi : X.N[i]? = some x) (hx : Loc X.env.scope x) (hv : PE X ev (tE Z Fo W v)) (hf : X.fn x = true ∨ X.env.scope.names.lookup x = some .local) :
    PS X (.AugAssign (.Name x p) .Add ev pos) (tS Z Fo W (augM i v)) :=
  ps_imp (ps_aug hN hi hx hv ip_add hf) fun E σ H ⟨g, m, G, h⟩ => by
    unfold augM at h
    cases e0 : m.ρ[i]? with
    | none => simp only [e0] at h; exact h.elim
    | some s =>
      match s, e0 with
      | .va (.int a), e0 =>
        simp only [e0] at h
        obtain ⟨w, ew, dw⟩ := G.sl i _ e0
        cases dw
        refine ⟨_, ew, g, m, G, (PoS.ahead (R := RD Z) h).imp fun y H1 ⟨e, g1, m1, G1, E1, re, _, q⟩ => ?_⟩
        match e, re, q with
        | .int b, .int _, q => exact ⟨a, b, rfl, rfl, q _ H1 g1 (G1.setv (.int (a + b))) .rfl'⟩
        | .non, _, q => exact q.elim
        | .bl _, _, q => exact q.elim
        | .str _, _, q => exact q.elim
        | .tup _, _, q => exact q.elim
        | .lst _, _, q => exact q.elim
        | .ktp _, _, q => exact q.elim
        | .dct _ _, _, q => exact q.elim
        | .ref _, _, q => exact q.elim
        | .glo _, _, q => exact q.elim
        | .kdc _, _, q => exact q.elim
        | .exo _, _, q => exact q.elim
        | .exf _ _ _, _, q => exact q.elim
      | .un, e0 => simp only [e0] at h; exact h.elim
      | .own _, e0 => simp only [e0] at h; exact h.elim
      | .va .non, e0 => simp only [e0] at h; exact h.elim
      | .va (.bl _), e0 => simp only [e0] at h; exact h.elim
      | .va (.str _), e0 => simp only [e0] at h; exact h.elim
      | .va (.tup _), e0 => simp only [e0] at h; exact h.elim
      | .va (.lst _), e0 => simp only [e0] at h; exact h.elim
      | .va (.ktp _), e0 => simp only [e0] at h; exact h.elim
      | .va (.dct _ _), e0 => simp only [e0] at h; exact h.elim
      | .va (.ref _), e0 => simp only [e0] at h; exact h.elim
      | .va (.glo _), e0 => simp only [e0] at h; exact h.elim
      | .va (.kdc _), e0 => simp only [e0] at h; exact h.elim
      | .va (.exo _), e0 => simp only [e0] at h; exact h.elim
      | .va (.exf _ _ _), e0 => simp only [e0] at h; exact h.elim
/-- a, b = e, f with plain names -/
def parM (is : List Nat) (f : Mo (List D)) : Mo Fl := f.bind fun ds => setT (.tp (is.foldr (fun i t => .cons (.nm i) t) .nil)) (.tup ds)
theorem ds_par2 {i j : Nat} {x y : Str} {a b : Expr} {f : Mo (List D)} {px py pt pos : Pos} {kt k2 pt2} (hc : X.calm = true) (hN : X.N.Nodup) (hi : X.N[i]? = some x) (hj : X.N[j]? = some y) (hij : i ≠ j)
    (hx : X.env.scope.names.lookup x = some .local) (hy : X.env.scope.names.lookup y = some .local) (ha : PA X [a, b] (tL Z Fo W f)) (hl : ∀ m ds m', f m = .ok ds m' → ds.length = 2)
    (hw : swappedStores [.Tuple [.Name x px, .Name y py] kt pt] (.Tuple [a, b] k2 pt2) X.env = pure (some [x, y])) (hs : swapsWithSole [.Tuple [.Name x px, .Name y py] kt pt] (.Tuple [a, b] k2 pt2) pos.line X.env = pure false) :
    PS X (.Assign [.Tuple [.Name x px, .Name y py] kt pt] (.Tuple [a, b] k2 pt2) pos) (tS Z Fo W (parM [i, j] f)) :=
  ps_imp (ps_par hc hN hi hj hij hx hy ha hw hs) fun E σ H ⟨g, m, G, h⟩ => ⟨g, m, G, (PoS.ahead (R := RDs Z) h).imp fun vs H1 ⟨ds, g1, m1, G1, _, rd, e, q⟩ => by
    have ln := hl _ _ _ e
    match ds, ln, rd, q with
    | [d1, d2], _, .cons (v := v) r1 (.cons (v := w) r2 .nil), q => exact ⟨v, w, rfl, q _ H1 g1 ((G1.setv r1).setv r2) .rfl'⟩⟩
theorem ds_par3 {i j l : Nat} {x y z : Str} {a b c : Expr} {f : Mo (List D)} {px py pz pt pos : Pos} {kt k2 pt2} (hc : X.calm = true) (hN : X.N.Nodup) (hi : X.N[i]? = some x) (hj : X.N[j]? = some y) (hl : X.N[l]? = some z) (hij : i ≠ j) (hil : i ≠ l) (hjl : j ≠ l)
    (hx : X.env.scope.names.lookup x = some .local) (hy : X.env.scope.names.lookup y = some .local) (hz : X.env.scope.names.lookup z = some .local) (ha : PA X [a, b, c] (tL Z Fo W f)) (hln : ∀ m ds m', f m = .ok ds m' → ds.length = 3)
    (hw : swappedStores [.Tuple [.Name x px, .Name y py, .Name z pz] kt pt] (.Tuple [a, b, c] k2 pt2) X.env = pure (some [x, y, z])) (hs : swapsWithSole [.Tuple [.Name x px, .Name y py, .Name z pz] kt pt] (.Tuple [a, b, c] k2 pt2) pos.line X.env = pure false) :
    PS X (.Assign [.Tuple [.Name x px, .Name y py, .Name z pz] kt pt] (.Tuple [a, b, c] k2 pt2) pos) (tS Z Fo W (parM [i, j, l] f)) :=
  ps_imp (ps_par3 hc hN hi hj hl hij hil hjl hx hy hz ha hw hs) fun E σ H ⟨g, m, G, h⟩ => ⟨g, m, G, (PoS.ahead (R := RDs Z) h).imp fun vs H1 ⟨ds, g1, m1, G1, _, rd, e, q⟩ => by
    have ln := hln _ _ _ e
    match ds, ln, rd, q with
    | [d1, d2, d3], _, .cons (v := u) r1 (.cons (v := v) r2 (.cons (v := w) r3 .nil)), q => exact ⟨u, v, w, rfl, q _ H1 g1 (((G1.setv r1).setv r2).setv r3) .rfl'⟩⟩
end

/-! ### methods, instances -/
section
variable {Z : Stc} {Fo : Hp} {W : WX} {g g' : Gh} {m m' : Mst} {σ : L2.St} {H : Hp} {N N' : Nat} {X : Cx}
/-- a.mn(es): of an object of one of the classes cs -/
def mthM (Φ : Str → Fn) (cs : List (Str × Str)) (mn : Str) (a : Opd) (es : Mo (List D)) : Mo D := fun m => (a.pre m).bind fun x m => match a.get x m with
  | some (.ref n) => match m.S[n]? with
    | some (.ins c fs) => match cs.lookup c, fs.lookup mn with
      | some key, none => callM (Φ key) (es.bind fun ds => .ret (.ref n :: ds)) m
      | _, _ => .no
    | _ => .no
  | _ => .no
structure MtOk (X : Cx) (Z : Stc) (k : Nat) (F : Fn) (c mn : Str) (n : Nat) : Prop where
  ex : ∃ (C f : Addr) (fd : FuncData) (ps : List Str), ps.length = n + 1 ∧ X.mg c = some (.ref C) ∧ Cls X.K C ∧ Meth X.K C mn f ∧ Binds X.K fd ps [] ∧ FnG X.prog X.w X.K X.mg X.base k f fd ps (spF Z (n + 1) F)
theorem rd_mth {Φ : Str → Fn} {cs : List (Str × Str)} {mn : Str} {k j : Nat} {a : Opd} {es : Mo (List D)} {x : V} {Q : V → Hp → Prop} (hK : X.K = Z.K) (hmg : X.mg = Z.mg) (hcs : ∀ c key, cs.lookup c = some key → MtOk X Z k (Φ key) c mn j) (hl : ∀ m ds m', es m = .ok ds m' → ds.length = j)
    (h : tE Z Fo W (mthM Φ cs mn a es) σ H Q) : tO Z Fo W a σ H fun x H1 => ∃ (p : Addr) (C f : Addr) (dx : Addr) (fv : List (Str × V)) (fd : FuncData) (ps : List Str) (F : Fn), x = .ref p ∧ H1 p = some (.ins C dx fv) ∧ Cls X.K C ∧ Meth X.K C mn f ∧ fv.lookup mn = none ∧ Binds X.K fd ps [] ∧ ps.length = j + 1 ∧ FnG X.prog X.w X.K X.mg X.base k f fd ps (spF Z (j + 1) F) ∧
      tL Z Fo W es σ H1 fun vs H2 => spF Z (j + 1) F (.ref p :: vs) H2 Q (WE W σ) := by
  obtain ⟨g, m, G, h⟩ := h
  refine opd_pass G h fun x H1 d0 g1 m1 G1 E1 p pv => ?_
  cases e0 : a.get d0 m1 with
  | none => simp only [e0] at p; exact p.elim
  | some d =>
    simp only [e0] at p
    have px := pv g1 m1 H1 d G1 .rfl' e0
    cases d with
    | ref n =>
      cases e1 : m1.S[n]? with
      | none => simp only [e1] at p; exact p.elim
      | some s =>
        cases s with
        | ob o => simp only [e1] at p; exact p.elim
        | ins c fs =>
          simp only [e1] at p
          cases c1 : cs.lookup c with
          | none => simp only [c1] at p; exact p.elim
          | some key =>
          cases c2 : fs.lookup mn with
          | some _ => simp only [c1, c2] at p; exact p.elim
          | none =>
            simp only [c1, c2] at p
            obtain ⟨C0, dx, fv, mc, io, hi, fr, _⟩ := ins_at G1 e1
            obtain ⟨C, f, fd, ps, lp, mC, cl, mt, hb, T⟩ := (hcs c key c1).ex
            have eC : C0 = C := by
              rw [hmg] at mC
              rw [mc] at mC
              cases mC
              rfl
            subst eC
            obtain ⟨ex, ltn⟩ := px.ref
            have q := fr.look (f := mn)
            rw [c2] at q
            refine ⟨_, C0, f, dx, fv, fd, ps, Φ key, ex, hi, cl, mt, q, hb, lp, T, g1, m1, G1, ?_⟩
            have p' : Pg Z Fo W (RD Z) g1 m1.S.length σ Q ((es m1).bind fun ds m => match Φ key (.ref n :: ds) ⟨[], m.S⟩ with | .ok d m' => .ok d ⟨m.ρ, m'.S⟩ | .exc x m' => .exc x ⟨m.ρ, m'.S⟩ | .no => .no) := by
              have e : callM (Φ key) (es.bind fun ds => .ret (.ref n :: ds)) m1 = (es m1).bind fun ds m => match Φ key (.ref n :: ds) ⟨[], m.S⟩ with | .ok d m' => .ok d ⟨m.ρ, m'.S⟩ | .exc x m' => .exc x ⟨m.ρ, m'.S⟩ | .no => .no := by
                unfold callM
                simp only [Mo.bind_at]
                cases es m1 <;> rfl
              rw [e] at p
              exact p
            refine (Pg.bind (R := RDs Z) p').imp fun vs H2 ⟨ds, g2, m2, G2, E2, rd, e2, q2⟩ => ?_
            have hmu : g2.μ n = g1.μ n := E2.mor.m n ltn
            exact rd_call (k := j + 1) G2 (ds := .ref n :: ds) (.cons (by rw [← hmu]; exact .ref (Nat.lt_of_lt_of_le ltn E2.mor.n)) rd) (by rw [List.length_cons, hl _ _ _ e2]) q2
    | _ => exact p.elim
section
variable {Φ : Str → Fn} {cs : List (Str × Str)} {mn : Str} {k j : Nat} {a : Opd} {f : Mo (List D)} {ea e : Expr} {es : List Expr} {apos pos : Pos}
theorem de_mth (hK : X.K = Z.K) (hmg : X.mg = Z.mg) (rm : RoomG k X.A) (hx : ∀ σ, PassesAt (L2.CX X.prog X.w) X σ (WE W σ)) (hcs : ∀ c key, cs.lookup c = some key → MtOk X Z k (Φ key) c mn j) (hl : ∀ m ds m', f m = .ok ds m' → ds.length = j)
    (ha : PE X ea (tO Z Fo W a)) (hf : PA X (e :: es) (tL Z Fo W f)) (hst : starEach (e :: es) X.env = (false, eval e X.env) :: starEach es X.env) (hpl : (backTo pos (starEach es X.env)).any (·.1) = false)
    (hb : attributeBase ea mn X.env (eval ea X.env) = eval ea X.env)
    (hfew : ((backTo pos (starEach (e :: es) X.env)).all (fun x => !x.1) && (backToKw pos (keywordEach [] X.env)).all (fun x => x.1.isSome) && decide ((e :: es).length + ([] : List Keyword).length + (if ([] : List Keyword).isEmpty then 0 else 1) < 30)) = true) (hli : (apos.endLine == pos.line) = true) :
    PE X (.Call (.Attribute ea mn apos) (e :: es) [] pos) (tE Z Fo W (mthM Φ cs mn a f)) := by
  refine ⟨fun pins s σ H Q I h => ?_⟩
  have hform : methodCallForm ((e :: es).length + ([] : List Keyword).length) (backTo pos (starEach (e :: es) X.env)) (backToKw pos (keywordEach [] X.env)) = true := hfew
  have hpos : methodCallPos true ea X.env apos pos = pure pos := by unfold methodCallPos; simp [hli]
  rw [arm_eval_Call, hb]
  refine wpAny_bind (thn (ha.run pins s σ H _ I (rd_mth (x := .non) hK hmg hcs hl h)) fun u s1 ⟨x, H1, I1, rx, p, C, fa, dx, fv, fd, ps, F, ex, hi, cl, mt, l, hbi, lp, T, q⟩ => ?_)
  subst ex
  obtain rfl : u = Value.ref p := rx
  refine wpAny_bind (wpAny_standAt ?_)
  unfold methodCall
  rw [hform]
  refine wpAny_bind (wpAny_holding (getmeth_ok I1 hi cl mt l ?_))
  refine wpAny_bind (wpAny_of_eq hpos ?_)
  refine PySem.W.callWith_K (first := [.ref p]) (h₀ := X.base) I1.ok.mod.kin mt.kp (thn (hf.run pos pins s1 σ H1 _ I1 q) fun us s2 ⟨vs, H2, I2, r, q2⟩ => ⟨I2.kIn, ?_⟩) hst hpl
  exact run_g (us := .ref p :: us) (vs := .ref p :: vs) T rm hbi (hx σ) I2 (.cons rfl r) q2
theorem de_mth0 (hK : X.K = Z.K) (hmg : X.mg = Z.mg) (rm : RoomG k X.A) (hx : ∀ σ, PassesAt (L2.CX X.prog X.w) X σ (WE W σ)) (hcs : ∀ c key, cs.lookup c = some key → MtOk X Z k (Φ key) c mn 0)
    (ha : PE X ea (tO Z Fo W a)) (hb : attributeBase ea mn X.env (eval ea X.env) = eval ea X.env) (hli : (apos.endLine == pos.line) = true) :
    PE X (.Call (.Attribute ea mn apos) [] [] pos) (tE Z Fo W (mthM Φ cs mn a (.ret []))) := by
  refine ⟨fun pins s σ H Q I h => ?_⟩
  have hform : methodCallForm (([] : List Expr).length + ([] : List Keyword).length) (backTo pos (starEach [] X.env)) (backToKw pos (keywordEach [] X.env)) = true := rfl
  have hpos : methodCallPos true ea X.env apos pos = pure pos := by unfold methodCallPos; simp [hli]
  rw [arm_eval_Call, hb]
  refine wpAny_bind (thn (ha.run pins s σ H _ I (rd_mth (x := .non) hK hmg hcs (fun m ds m' e => by cases e; rfl) h)) fun u s1 ⟨x, H1, I1, rx, p, C, fa, dx, fv, fd, ps, F, ex, hi, cl, mt, l, hbi, lp, T, q⟩ => ?_)
  subst ex
  obtain rfl : u = Value.ref p := rx
  refine wpAny_bind (wpAny_standAt ?_)
  unfold methodCall
  rw [hform]
  refine wpAny_bind (wpAny_holding (getmeth_ok I1 hi cl mt l ?_))
  refine wpAny_bind (wpAny_of_eq hpos ?_)
  exact PySem.W.callWith_K0 (first := [.ref p]) I1.kIn mt.kp (run_g (us := [.ref p]) (vs := [.ref p]) T rm hbi (hx σ) I1 (.cons rfl .nil) (rd_nil q))
end
/-- an instance, new -/
def Gh.layI (g : Gh) (N : Nat) (x dx : Addr) : Gh := { g with μ := fun n => if n = N then x else g.μ n, ow := fun b => if b = x then some (.lo N) else if b = dx then some (.di N) else g.ow b }
theorem layI_ext {x dx : Addr} : Ext Fo g N (g.layI N x dx) (N + 1) := ⟨⟨fun _ _ h => h, fun n h => if_neg (Nat.ne_of_lt h), Nat.le_succ _⟩, fun _ _ h => .inl h⟩
theorem Good.layI {x dx : Addr} {c : Str} {C : Addr} (G : Good Z Fo g m σ H) (nx : H x = none) (nd : H dx = none) (ne : dx ≠ x) (mc : Z.mg c = some (.ref C)) (io : InsOk Z.K C) :
    Good Z Fo (g.layI m.S.length x dx) { m with S := m.S ++ [.ins c []] } σ (upd (upd H dx (.own x)) x (.ins C dx [])) := by
  obtain ⟨a1, a2, a3⟩ := G.free nx
  obtain ⟨b1, b2, b3⟩ := G.free nd
  have E : Ext Fo g m.S.length (g.layI m.S.length x dx) (m.S.length + 1) := layI_ext
  have ln : (m.S ++ [SO.ins c []]).length = m.S.length + 1 := by simp
  have nw : ∀ {a : Addr} {u : Ow}, g.ow a = some u → (g.layI m.S.length x dx).ow a = some u := fun {a u} q => by
    show (if a = x then some (Ow.lo m.S.length) else if a = dx then some (Ow.di m.S.length) else g.ow a) = some u
    rw [if_neg (fun z => by rw [z, a2] at q; cases q), if_neg (fun z => by rw [z, b2] at q; cases q)]; exact q
  have hu : ∀ {a : Addr} {o : HO}, H a = some o → upd (upd H dx (.own x)) x (.ins C dx []) a = some o := fun {a o} e => by
    rw [upd_ne (fun z => by rw [z, nx] at e; cases e), upd_ne (fun z => by rw [z, nd] at e; cases e)]; exact e
  have mu : ∀ {k : Nat}, k < m.S.length → (g.layI m.S.length x dx).μ k = g.μ k := fun {k} h => if_neg (Nat.ne_of_lt h)
  refine ⟨⟨fun a o q => hu (G.s.gh a o q), fun a o q => hu (G.s.fo a o q), fun k s q => ?_, fun a u q => ?_⟩, G.len, fun j s q => ?_⟩
  · show SoR Z _ (m.S ++ [SO.ins c []]).length _ k s
    rw [ln]
    have q : (m.S ++ [SO.ins c []])[k]? = some s := q
    by_cases lt : k < m.S.length
    · rw [List.getElem?_append_left lt] at q
      have y := G.s.st k s q
      cases s with
      | ob o' => obtain ⟨h', x1, x2, x3⟩ := y; exact ⟨h', by rw [mu lt]; exact nw x1, by rw [mu lt]; exact hu x2, x3.ext E⟩
      | ins c fs => obtain ⟨C, dx, fs', x1, x2, x3, x4, x5, x6⟩ := y; exact ⟨C, dx, fs', by rw [mu lt]; exact nw x1, x2, by rw [mu lt]; exact hu x3, by rw [mu lt]; exact hu x4, nw x5, x6.ext E⟩
    · rw [List.getElem?_append_right (Nat.le_of_not_lt lt)] at q
      have z : k = m.S.length := by
        have := (List.getElem?_eq_some_iff.mp q).1
        simp at this
        omega
      subst z
      simp at q
      subst q
      have mp : (g.layI m.S.length x dx).μ m.S.length = x := if_pos rfl
      exact ⟨C, dx, [], by rw [mp]; exact if_pos rfl, ⟨mc, io⟩, by rw [mp]; exact upd_same, by rw [mp, upd_ne ne]; exact upd_same, (if_neg ne).trans (if_pos rfl), trivial⟩
  · have q' : (if a = x then some (Ow.lo m.S.length) else if a = dx then some (Ow.di m.S.length) else g.ow a) = some u := q
    by_cases z : a = x
    · subst z; exact ⟨a1, a3, _, upd_same⟩
    · rw [if_neg z] at q'
      by_cases z2 : a = dx
      · subst z2; exact ⟨b1, b3, _, by rw [upd_ne z]; exact upd_same⟩
      · rw [if_neg z2] at q'
        obtain ⟨y1, y2, o, y3⟩ := G.s.ow a u q'
        exact ⟨y1, y2, o, hu y3⟩
  · show SlR Z _ (m.S ++ [SO.ins c []]).length σ _ j s
    rw [ln]
    have y := G.sl j s q
    cases s with
    | un => trivial
    | va d => obtain ⟨v, q1, q2⟩ := y; exact ⟨v, q1, q2.ext E⟩
    | own o' => obtain ⟨a, h', q1, q2, q3, q4⟩ := y; exact ⟨a, h', q1, nw q2, hu q3, q4.ext E⟩
def mkM (F : Fn) (c : Str) (f : Mo (List D)) : Mo D := f.bind fun ds m => match F (.ref m.S.length :: ds) ⟨[], m.S ++ [.ins c []]⟩ with
  | .ok .non m' => .ok (.ref m.S.length) ⟨m.ρ, m'.S⟩
  | .ok _ _ => .no
  | .exc x m' => .exc x ⟨m.ρ, m'.S⟩
  | .no => .no
structure MkOk (X : Cx) (k : Nat) (Z : Stc) (F : Fn) (c : Str) (n : Nat) : Prop where
  ex : ∃ (C f : Addr) (fd : FuncData) (ps : List Str), ps.length = n + 1 ∧ X.mg c = some (.ref C) ∧ InsOk X.K C ∧ Mk X.K C f ∧ Binds X.K fd ps [] ∧ FnG X.prog X.w X.K X.mg X.base k f fd ps (spF Z (n + 1) F)
theorem RoomG.make {k : Nat} {A : Around} (r : RoomG (k + 1) A) (C : Addr) (us : List Value) : RoomG k (A.under (.builtin "type.__call__" ⟨.ref C :: us, []⟩)) := ⟨r.room.make C us [], r.gd⟩
theorem run_mkG {k : Nat} {C f : Addr} {fd : FuncData} {ps : List Str} {sp : Sp} {E : XK} {pins : List (Addr × Obj)} {s : Shared} {Q : VK} {us : List Value} {vs : List V} (M : Mk X.K C f) (T : FnG X.prog X.w X.K X.mg X.base k f fd ps sp) (hr : RoomG (k + 1) X.A) (hb : Binds X.K fd ps [])
    (hx : PassesAt (L2.CX X.prog X.w) X σ E) (I : Inv X pins σ H s) (r : Vals vs us)
    (h : ∀ x dx, H x = none → H dx = none → dx ≠ x → sp (.ref x :: vs) (upd (upd H dx (.own x)) x (.ins C dx [])) (fun v H2 => v = .non ∧ Q (.ref x) H2) E) :
    wpAny (model X.prog X.w) X.A (call (.ref C) us) (EP X pins σ Q) X.xe s := by
  have hq := h (s.heap.objs.size + 1) s.heap.objs.size (I.hok.fresh (Nat.le_succ _)) (I.hok.fresh (Nat.le_refl _)) (Nat.ne_of_lt (Nat.lt_succ_self _))
  have I2 := Inv.made (C := C) I
  have r2 : Vals (V.ref (s.heap.objs.size + 1) :: vs) (Value.ref (s.heap.objs.size + 1) :: us) := .cons rfl r
  have hl : (Value.ref (s.heap.objs.size + 1) :: us).length = ps.length := by
    have e := r2.length
    rw [T.len _ _ _ _ hq] at e
    exact e.symm
  have bt := hb { s with heap := (s.heap.push PySem.W.emptyDict).push (PySem.W.instObj C s.heap.objs.size) } (Value.ref (s.heap.objs.size + 1) :: us) I2.kIn (by rw [List.append_nil]; exact hl)
  rw [List.append_nil] at bt
  refine wpAny_call (make_map (f := f) I.kIn M.makes M.init (beq_iff_eq.mp M.fn) (codeAny_mono (T.go _ X.stack _ _ ⟨Value.ref (s.heap.objs.size + 1) :: us, []⟩ (Value.ref (s.heap.objs.size + 1) :: us) _ _ E (hr.make C us)
    (I2.env0.make C us []) bt r2 hq) fun r s' hq' => ?_))
  cases r with
  | error e => exact hx pins _ _ e s' I2 hq'
  | ok fl =>
    cases fl with
    | ret u =>
      obtain ⟨v, H', I3, rv, ev, q3⟩ := I2.after hq'
      subst ev
      exact ⟨rv, ⟨V.ref (s.heap.objs.size + 1), H', I3, rfl, q3⟩⟩
    | next => exact False.elim hq'
    | brk => exact False.elim hq'
    | cont => exact False.elim hq'
theorem rd_mk {F : Fn} {c : Str} {C : Addr} {n : Nat} {Q : V → Hp → Prop} {ds : List D} {vs : List V} (hK : X.K = Z.K) (hmg : X.mg = Z.mg) (mC : X.mg c = some (.ref C)) (io : InsOk X.K C) (G : Good Z Fo g m σ H) (r : DVs Z g.G g.μ m.S.length ds vs) (hn : ds.length = n)
    (h : Pg Z Fo W (RD Z) g m.S.length σ Q (match F (.ref m.S.length :: ds) ⟨[], m.S ++ [.ins c []]⟩ with | .ok .non m' => .ok (.ref m.S.length) ⟨m.ρ, m'.S⟩ | .ok _ _ => .no | .exc x m' => .exc x ⟨m.ρ, m'.S⟩ | .no => .no)) (x dx : Addr) (nx : H x = none) (nd : H dx = none) (ne : dx ≠ x) :
    spF Z (n + 1) F (.ref x :: vs) (upd (upd H dx (.own x)) x (.ins C dx [])) (fun v H2 => v = .non ∧ Q (.ref x) H2) (WE W σ) := by
  have G2 := G.layI (c := c) nx nd ne (hmg ▸ mC) (hK ▸ io)
  have E2 : Ext Fo g m.S.length (g.layI m.S.length x dx) (m.S ++ [SO.ins c []]).length := by
    rw [List.length_append]; exact layI_ext
  have mp : (g.layI m.S.length x dx).μ m.S.length = x := if_pos rfl
  have lt : m.S.length < (m.S ++ [SO.ins c []]).length := by rw [List.length_append]; exact Nat.lt_succ_self _
  have dx0 : DV Z (g.layI m.S.length x dx).G (g.layI m.S.length x dx).μ (m.S ++ [SO.ins c []]).length (.ref m.S.length) (.ref x) := by
    have z := DV.ref (Z := Z) (G := (g.layI m.S.length x dx).G) (μ := (g.layI m.S.length x dx).μ) lt
    rw [mp] at z
    exact z
  refine rd_call (k := n + 1) (m := { m with S := m.S ++ [.ins c []] }) (ds := .ref m.S.length :: ds) G2 (.cons dx0 (r.ext E2)) (by rw [List.length_cons, hn]) ?_
  show Pg Z Fo W (RD Z) _ (m.S ++ [SO.ins c []]).length σ _ (match F (.ref m.S.length :: ds) ⟨[], m.S ++ [.ins c []]⟩ with | .ok d m' => .ok d ⟨m.ρ, m'.S⟩ | .exc x m' => .exc x ⟨m.ρ, m'.S⟩ | .no => .no)
  cases e : F (.ref m.S.length :: ds) ⟨[], m.S ++ [.ins c []]⟩ with
  | no => rw [e] at h; exact h.elim
  | exc y m' => rw [e] at h; exact fun cl dd H' g' G' E' ex => h cl dd H' g' G' (E2.trans E') ex
  | ok d m' =>
    rw [e] at h
    cases d with
    | non =>
      intro v H' g' G' E' rv
      cases rv
      refine ⟨rfl, h (.ref x) H' g' G' (E2.trans E') ?_⟩
      exact dx0.ext E'
    | _ => exact h.elim
section
variable {F : Fn} {c : Str} {k j : Nat} {f : Mo (List D)} {e : Expr} {es : List Expr} {p pos : Pos}
theorem de_mk (hK : X.K = Z.K) (hmg : X.mg = Z.mg) (rm : RoomG (k + 1) X.A) (hx : ∀ σ, PassesAt (L2.CX X.prog X.w) X σ (WE W σ)) (hc : MkOk X k Z F c j) (hl : ∀ m ds m', f m = .ok ds m' → ds.length = j) (hg : Gl X c)
    (hf : PA X (e :: es) (tL Z Fo W f)) (hdb : (c == ("__debug__" : Str)) = false) (he : starEach (e :: es) X.env = (false, eval e X.env) :: starEach es X.env) (hpl : (backTo pos (starEach es X.env)).any (·.1) = false) :
    PE X (.Call (.Name c p) (e :: es) [] pos) (tE Z Fo W (mkM F c f)) := by
  obtain ⟨C, fI, fd, ps, lp, mC, io, M, hb, T⟩ := hc.ex
  refine ⟨fun pins s σ H Q I ⟨g, m, G, h⟩ => wpAny_Call_Name_kw (ld_glob I hg mC (PySem.W.callWith_K (h₀ := X.base) I.ok.mod.kin M.kp (thn (hf.run pos pins s σ H (fun vs H1 => ∀ x dx, H1 x = none → H1 dx = none → dx ≠ x → spF Z (j + 1) F (.ref x :: vs) (upd (upd H1 dx (.own x)) x (.ins C dx [])) (fun v H2 => v = .non ∧ Q (.ref x) H2) (WE W σ)) I ⟨g, m, G, ?_⟩) fun us s1 ⟨vs, H1, I1, r, q⟩ => ⟨I1.kIn, run_mkG M T rm hb (hx σ) I1 r q⟩) he hpl) hdb)⟩
  exact (Pg.bind (R := RDs Z) h).imp fun vs H1 ⟨ds, g1, m1, G1, E1, r, e1, q⟩ => rd_mk (X := X) hK hmg mC io G1 r (hl _ _ _ e1) q
theorem de_mk0 (hK : X.K = Z.K) (hmg : X.mg = Z.mg) (rm : RoomG (k + 1) X.A) (hx : ∀ σ, PassesAt (L2.CX X.prog X.w) X σ (WE W σ)) (hc : MkOk X k Z F c 0) (hg : Gl X c) (hdb : (c == ("__debug__" : Str)) = false) :
    PE X (.Call (.Name c p) [] [] pos) (tE Z Fo W (mkM F c (.ret []))) := by
  obtain ⟨C, fI, fd, ps, lp, mC, io, M, hb, T⟩ := hc.ex
  exact ⟨fun pins s σ H Q I ⟨g, m, G, h⟩ => wpAny_Call_Name_kw (ld_glob I hg mC (PySem.W.callWith_K0 I.kIn M.kp (run_mkG (us := []) (vs := []) M T rm hb (hx σ) I .nil (rd_mk (X := X) (n := 0) hK hmg mC io G .nil rfl h))) hdb)⟩
end
end
end LB

namespace LB
open PySem L2 PyProof.Rows

/-! ### t[::-1] of a tuple -/
section
open HT
variable {prog : Program} {w : World} {A : Around} {E : Value → Shared → Prop} {s : Shared}
theorem sliceApplied_rev {sl : Addr} {vs : Value} {n : Nat} {Q : Int × Int × Nat → Shared → Prop} (hs : s.heap.IsSliceOf sl .none .none vs) (ps : IsPart vs (some (-1)))
    (h : Q ((n : Int) - 1, -1, n) s) : wpAny (model prog w) A (Builtin.Slice.sliceApplied (.ref sl) (pure (n : Int))) Q E s := by
  obtain ⟨os, hos, hcs, hds⟩ := id hs
  unfold Builtin.Slice.sliceApplied Builtin.Slice.sliceFields
  refine wpAny_bind (wpAny_bind (wpAny_field hos hds (x := .none) rfl (wpAny_bind (wpAny_field hos hds (x := .none) rfl (wpAny_bind (wpAny_field hos hds (x := vs) rfl (wpAny_pure ?_)))))))
  refine wpAny_bind (slicePart_ ps ?_)
  show wpAny _ _ (if ((-1 : Int) == 0) = true then _ else _) _ _ s
  rw [if_neg (by decide)]
  refine wpAny_bind (slicePart_none (wpAny_bind (slicePart_none (wpAny_bind (wpAny_pure ?_)))))
  show wpAny _ _ (pure (((n : Int) - 1), (-1 : Int), Builtin.Slice.slicePlaces ((n : Int) - 1) (-1) (-1))) _ _ s
  have e : Builtin.Slice.slicePlaces ((n : Int) - 1) (-1) (-1) = n := by
    unfold Builtin.Slice.slicePlaces
    rw [if_neg (by decide)]
    split
    · rw [show (- -1 : Int) = 1 by decide, Int.ediv_one]; omega
    · omega
  rw [e]
  exact wpAny_pure h
theorem fm_map {α β : Type} {f : α → Option β} {g : α → β} : ∀ {l : List α}, (∀ x ∈ l, f x = some (g x)) → l.filterMap f = l.map g
  | [], _ => rfl
  | a :: l, h => by rw [List.filterMap_cons, h a List.mem_cons_self, List.map_cons, fm_map fun x hx => h x (List.mem_cons_of_mem _ hx)]
theorem pick_rev (xs : Array Value) : ((List.range xs.size).filterMap fun (m : Nat) => xs[(((xs.size : Int) - 1) + (m : Int) * (-1)).toNat]?).toArray = xs.toList.reverse.toArray := by
  have e : ∀ m ∈ List.range xs.size, xs[(((xs.size : Int) - 1) + (m : Int) * (-1)).toNat]? = some (xs.toList.reverse.getD m .none) := fun m hm => by
    have lt := List.mem_range.mp hm
    have e1 : (((xs.size : Int) - 1) + (m : Int) * (-1)).toNat = xs.size - 1 - m := by omega
    rw [e1, ← Array.getElem?_toList]
    have e2 : xs.toList.reverse[m]? = xs.toList[xs.size - 1 - m]? := by
      rw [List.getElem?_reverse (by simpa using lt)]
      simp
    rw [← e2, List.getD_eq_getElem?_getD, List.getElem?_eq_getElem (by simpa using lt)]
    rfl
  have e3 : ((List.range xs.size).filterMap fun (m : Nat) => xs[(((xs.size : Int) - 1) + (m : Int) * (-1)).toNat]?) = (List.range xs.size).map fun m => xs.toList.reverse.getD m .none := fm_map e
  rw [e3]
  congr 1
  refine List.ext_getElem (by simp) fun i h1 h2 => ?_
  rw [List.getElem_map, List.getElem_range, List.getD_eq_getElem?_getD, List.getElem?_eq_getElem h2]
  rfl
theorem getItem_tuple_rev {t sl : Addr} {items : Array Value} {vs : Value} {Q : Value → Shared → Prop} (ht : IsTup s.heap t items) (hs : s.heap.IsSliceOf sl .none .none vs) (ps : IsPart vs (some (-1)))
    (h : Q (.ref s.heap.objs.size) { s with heap := s.heap.push { cls := .type "tuple", data := .seq items.toList.reverse.toArray } }) (hsz : items.size ≤ sizeLine) : wpAny (model prog w) A (getItem (.ref t) (.ref sl)) Q E s := by
  have htake : sizeOk (.seq items.toList.reverse.toArray) := by
    show items.toList.reverse.toArray.size ≤ sizeLine
    rw [List.size_toArray, List.length_reverse, Array.length_toList]
    exact hsz
  obtain ⟨os, hos, hcs, hds⟩ := id hs
  have hTs : s.TypeIs (.ref sl) "slice" := ⟨os, hos, hcs⟩
  unfold getItem
  try with_reducible refine wpAny_holding ?_
  first | refine wpAny_bind (wpAny_pure ?_) | skip
  refine wpAny_bind (wpAny_sequenceKey ht.typeIs (by decide) ?_)
  refine wpAny_bind (wpAny_callSpecial?_slot (name := Str.ofString "__getitem__") ht.typeIs PyProof.Rows.slot_tuple_getitem
    (wpAny_call_entry PyProof.Rows.slot_tuple_getitem ht.typeIs entry_tuple_getitem ?_ (args_tuple_getitem _ _)))
  show wpAny _ _ (Builtin.Tuple.tupleItemsOf (.ref t) >>= _) _ _ s
  refine wpAny_bind (tupleItemsOf_ ht ?_)
  refine wpAny_bind (wpAny_typeOf hTs ?_)
  rw [if_pos (by decide)]
  refine wpAny_bind (sliceApplied_rev hs ps ?_)
  have hno : ¬ ((((items.size : Int) - 1) == 0 && (-1 : Int) == 1 && items.size == items.size) = true) := by
    rw [show ((-1 : Int) == 1) = false by decide, Bool.and_false, Bool.false_and]
    decide
  show wpAny _ _ (if (((items.size : Int) - 1) == 0 && (-1 : Int) == 1 && items.size == items.size) = true then _ else _) _ _ s
  rw [if_neg hno, pick_rev]
  first
    | exact wpAny_bind (m := Builtin.Tuple.tupleExact _) (wpAny_newObj_type (wpAny_pure ⟨_, rfl, wpAny_pure h⟩) htake)
    | exact wpAny_bind (m := Builtin.Tuple.tupleExact _) (wpAny_newObj_type (wpAny_bind (wpAny_pure (wpAny_pure ⟨_, rfl, wpAny_pure h⟩))) htake)
    | exact wpAny_bind (wpAny_bind (m := Builtin.Tuple.tupleExact _) (wpAny_newObj_type (wpAny_pure (wpAny_pure ⟨_, rfl, wpAny_pure h⟩)) htake))
    | exact wpAny_bind (wpAny_bind (m := Builtin.Tuple.tupleExact _) (wpAny_newObj_type (wpAny_pure ⟨_, rfl, wpAny_pure h⟩) htake))
end
section
variable {Z : Stc} {Fo : Hp} {W : WX} {g g' : Gh} {m m' : Mst} {σ : L2.St} {H : Hp} {N N' : Nat} {X : Cx}
def tRevT (K : PySem.W.Frag) (te : TE) : TE := fun σ H Q => te σ H fun x H1 => ∃ a xs, x = .ref a ∧ SqT K H1 a xs ∧ ∀ p, H1 p = none → Q (.ref p) (upd H1 p (.tup xs.reverse))
theorem pe_revT {e : Expr} {te : TE} {k : Nat} {p1 p2 p3 pos : Pos} (he : PE X e te) : PE X (.Subscript e (.Slice none none (some (.UnaryOp .USub (.Constant (.int 1) k p1) p2)) p3) pos) (tRevT X.K te) := by
  refine ⟨fun pins s σ H Q I h => ?_⟩
  refine Subscript_ (thn (he.run pins s σ H _ I h) fun v s1 ⟨x, H1, I1, r1, q1⟩ => ?_)
  obtain ⟨a, xs, ex, hx, q⟩ := q1
  subst ex
  cases r1
  have hst : PO X (some (.UnaryOp .USub (.Constant (.int 1) k p1) p2)) (tPart (tUn (rU fun i => .int (-i)) (tC (.int 1)))) := po_some (pe_un un_neg pe_int)
  refine wpAny_Slice (thn (po_none.run pins s1 σ H1 (fun o H2 => o = none ∧ H2 = H1) I1 ⟨rfl, rfl⟩) fun vl s2 ⟨l, H2, I2, pl, el, e2⟩ => ?_)
  subst el e2
  refine thn (po_none.run pins s2 σ H2 (fun o H3 => o = none ∧ H3 = H2) I2 ⟨rfl, rfl⟩) fun vu s3 ⟨u, H3, I3, pu, eu, e3⟩ => ?_
  subst eu e3
  refine thn (hst.run pins s3 σ H3 (fun o H4 => o = some (-1) ∧ H4 = H3) I3 ⟨1, rfl, -1, rfl, rfl, rfl⟩) fun vs s4 ⟨o, H4, I4, ps, eo, e4⟩ => ?_
  subst eo e4
  cases pl
  cases pu
  have I5 : Inv X pins σ H4 { s4 with heap := s4.heap.push { cls := .type "slice", data := .fields #[.none, .none, vs] } } := I4.kept (t' := s4.toks) fun b ob q => Heap.get?_push_of_some _ q
  obtain ⟨its, r, ht, hz⟩ := I5.tuple hx
  have hlen := r.length
  show wpAny (model X.prog X.w) X.A (subscriptTail e (.Slice none none (some (.UnaryOp .USub (.Constant (.int 1) k p1) p2)) p3) (.ref a) (.ref s4.heap.objs.size)) (EP X pins σ Q) X.xe { s4 with heap := s4.heap.push { cls := .type "slice", data := .fields #[.none, .none, vs] } }
  refine tail_any (ops := [.ref a, .ref s4.heap.objs.size]) ht.typeIs (PyProof.Rows.slot_tuple_getitem.lookup) ?_ (by with_unfolding_all rfl)
  refine getItem_tuple_rev ht (Heap.IsSliceOf.new _ .none .none vs) ps ?_ (by rw [List.size_toArray]; omega)
  refine ⟨.ref _, _, I5.laid (t' := s4.toks) (o := .tup xs.reverse) (fun b ob q => Heap.get?_push_of_some _ q) (Nat.le_refl _) ?_, rfl, q _ (I5.hok.fresh (Nat.le_refl _))⟩
  exact ⟨by rw [List.length_reverse]; exact hz, _, r.reverse, IsTup.new _ _⟩
def revD : D → Mo D
  | .tup ds => .ret (.tup ds.reverse)
  | _ => .no
theorem de_revT {ea : Expr} {a : Opd} {k : Nat} {p1 p2 p3 pos : Pos} (hK : X.K = Z.K) (ha : PE X ea (tO Z Fo W a)) : PE X (.Subscript ea (.Slice none none (some (.UnaryOp .USub (.Constant (.int 1) k p1) p2)) p3) pos) (tE Z Fo W (opd1 a revD)) :=
  (pe_revT ha).imp fun σ H Q ⟨g, m, G, h⟩ => rd_opd1 G h fun g' m' H' x d G' _ px p => by
    cases d with
    | tup ds =>
      obtain ⟨b, vs, rfl, hb, _, dv⟩ := px.tup G'
      refine ⟨b, vs, rfl, hK ▸ hb, fun q n => ?_⟩
      obtain ⟨G2, E2⟩ := G'.laid (h := .tup vs.reverse) n
      exact p _ _ _ G2 E2 (.tup (show upd g'.G q _ q = _ from upd_same) (dv.reverse.ext E2))
    | _ => exact p.elim
def revMN (d : D) : Mo D := match d with
  | .lst ds => .ret (.lst ds.reverse)
  | d => revD d
def revS (d : D) : Mo (D ⊕ Ob) := match d with
  | .lst ds => .ret (.inr (.lst ds.reverse))
  | .tup ds => .ret (.inl (.tup ds.reverse))
  | _ => .no

/-! ### {} -/
def dct0M (t : Bool) : Mo Ob := .ret (.dct t [])
theorem de_dct0 {t : Bool} {pos : Pos} : PE X (.Dict [] [] pos) (tN Z Fo W (dct0M t)) := by
  cases t with
  | false =>
    refine pe_dnewK.imp fun σ H Q ⟨g, m, G, h⟩ p n => ?_
    obtain ⟨f1, f2, f3⟩ := G.free n
    exact h _ _ _ (G.fresh n) .rfl' ⟨p, _, rfl, upd_same, ⟨_, rfl, .nil⟩, f1, f2, f3⟩
  | true =>
    refine pe_dnewT.imp fun σ H Q ⟨g, m, G, h⟩ p n => ?_
    obtain ⟨f1, f2, f3⟩ := G.free n
    exact h _ _ _ (G.fresh n) .rfl' ⟨p, _, rfl, upd_same, ⟨_, rfl, .nil⟩, f1, f2, f3⟩

/-! ### i.bit_length() -/
def bitsM : D → Mo D
  | .int i => .ret (.int (Builtin.Int.intBits i : Nat))
  | _ => .no
theorem de_bits {ea : Expr} {a : Opd} {apos pos : Pos} (ha : PE X ea (tO Z Fo W a)) (hb : attributeBase ea "bit_length" X.env (eval ea X.env) = eval ea X.env) (hl : (apos.endLine == pos.line) = true) : PE X (.Call (.Attribute ea "bit_length" apos) [] [] pos) (tE Z Fo W (opd1 a bitsM)) :=
  (pe_bits ha hb hl).imp fun σ H Q ⟨g, m, G, h⟩ => rd_opd1 G h fun g' m' H' x d G' _ px p => by
    cases d with
    | int i => exact ⟨i, px.int, p _ _ _ G' .rfl' (.int _)⟩
    | _ => exact p.elim

/-! ### what isn't reached; a try that nothing leaves -/
theorem ds_stuck {st : Stmt} : PS X st (tS Z Fo W Mo.no) := ps_imp ps_never fun E σ H ⟨g, m, G, h⟩ => h.elim
/-! ### a def that is a value, called -/
structure FnAt (X : Cx) (Z : Stc) (k : Nat) (F : Fn) (x : Str) (n : Nat) : Prop where
  ex : ∃ (f : Addr) (fd : FuncData) (ps : List Str), ps.length = n ∧ X.mg x = some (.ref f) ∧ PySem.W.keepIn X.K (.ref f) = true ∧ Binds X.K fd ps [] ∧ FnG X.prog X.w X.K X.mg X.base k f fd ps (spF Z n F)
def cvM (Φ : Str → Fn) (fs : List Str) (f : Mo D) (es : Mo (List D)) : Mo D := f.bind fun d m => match d with
  | .glo x => if x ∈ fs then callM (Φ x) es m else .no
  | _ => .no
theorem de_cv {Φ : Str → Fn} {fs : List Str} {k j : Nat} {f : Mo D} {r : Mo (List D)} {ef e : Expr} {es : List Expr} {pos : Pos} (hmg : X.mg = Z.mg) (rm : RoomG k X.A) (hx : ∀ σ, PassesAt (L2.CX X.prog X.w) X σ (WE W σ)) (hfs : ∀ x ∈ fs, FnAt X Z k (Φ x) x j) (hl : ∀ m ds m', r m = .ok ds m' → ds.length = j)
    (hf : PE X ef (tE Z Fo W f)) (ha : PA X (e :: es) (tL Z Fo W r)) (he : starEach (e :: es) X.env = (false, eval e X.env) :: starEach es X.env) (hpl : (backTo pos (starEach es X.env)).any (·.1) = false)
    (ht : eval (.Call ef (e :: es) [] pos) X.env = (do callWith pos (← eval ef X.env) [] (backTo pos (starEach (e :: es) X.env)) (backToKw pos (keywordEach [] X.env)))) :
    PE X (.Call ef (e :: es) [] pos) (tE Z Fo W (cvM Φ fs f r)) := by
  refine ⟨fun pins s σ H Q I ⟨g, m, G, h⟩ => ?_⟩
  rw [ht]
  refine wpAny_bind (thn (hf.run pins s σ H (fun v H1 => ∃ (fa : Addr) (fd : FuncData) (ps : List Str) (F : Fn), v = .ref fa ∧ PySem.W.keepIn X.K (.ref fa) = true ∧ Binds X.K fd ps [] ∧ FnG X.prog X.w X.K X.mg X.base k fa fd ps (spF Z j F) ∧ tL Z Fo W r σ H1 fun vs H2 => spF Z j F vs H2 Q (WE W σ)) I ⟨g, m, G, ?_⟩) fun u s1 ⟨v, H1, I1, r1, fa, fd, ps, F, ev, kp, hb, T, q⟩ => ?_)
  · refine (Pg.bind (R := RD Z) h).imp fun v H1 ⟨d, g1, m1, G1, E1, rd, _, q⟩ => ?_
    cases d with
    | glo x =>
      have q : Pg Z Fo W (RD Z) g1 m1.S.length σ Q (if x ∈ fs then callM (Φ x) r m1 else .no) := q
      by_cases c : x ∈ fs
      · rw [if_pos c] at q
        obtain ⟨fa, fd, ps, lp, hm, kp, hb, T⟩ := (hfs x c).ex
        cases rd with
        | glo e0 =>
          rw [hmg, e0] at hm
          cases hm
          exact ⟨_, fd, ps, Φ x, rfl, kp, hb, T, g1, m1, G1, (Pg.bind (R := RDs Z) q).imp fun vs H2 ⟨ds, g2, m2, G2, E2, rds, e2, q2⟩ => rd_call G2 rds (hl _ _ _ e2) q2⟩
      · rw [if_neg c] at q; exact q.elim
    | _ => exact q.elim
  · subst ev
    cases r1
    exact PySem.W.callWith_K (h₀ := X.base) I1.ok.mod.kin kp (thn (ha.run pos pins s1 σ H1 _ I1 q) fun us s2 ⟨vs, H2, I2, r2, q2⟩ => ⟨I2.kIn, run_g T rm hb (hx σ) I2 r2 q2⟩) he hpl
end
end LB

namespace LB
open PySem L2 PyProof.Rows

/-! ### sorted(set(t)) of whole numbers -/
def insU (a : Int) : List Int → List Int
  | [] => [a]
  | b :: r => if a < b then a :: b :: r else if a = b then b :: r else b :: insU a r
def sortU (l : List Int) : List Int := l.foldr insU []
theorem insU_mem {a x : Int} : ∀ {l : List Int}, x ∈ insU a l ↔ x = a ∨ x ∈ l
  | [] => by simp [insU]
  | b :: r => by
    unfold insU
    split
    · simp
    · split
      · rename_i h1 h2; subst h2; simp
      · rw [List.mem_cons, insU_mem, List.mem_cons]
        constructor
        · rintro (h | h | h) <;> simp [h]
        · rintro (h | h | h) <;> simp [h]
theorem insU_pw {a : Int} : ∀ {l : List Int}, l.Pairwise (· < ·) → (insU a l).Pairwise (· < ·)
  | [], _ => by simp [insU]
  | b :: r, h => by
    rw [List.pairwise_cons] at h
    unfold insU
    split
    · rename_i h1
      exact List.pairwise_cons.mpr ⟨fun x hx => by
        rcases List.mem_cons.mp hx with q | q
        · rw [q]; exact h1
        · exact Int.lt_trans h1 (h.1 x q), List.pairwise_cons.mpr h⟩
    · split
      · exact List.pairwise_cons.mpr h
      · rename_i h1 h2
        exact List.pairwise_cons.mpr ⟨fun x hx => by
          rcases insU_mem.mp hx with q | q
          · rw [q]; omega
          · exact h.1 x q, insU_pw h.2⟩
theorem sortU_mem {x : Int} : ∀ {l : List Int}, x ∈ sortU l ↔ x ∈ l
  | [] => by simp [sortU]
  | a :: r => by
    show x ∈ insU a (sortU r) ↔ _
    rw [insU_mem, sortU_mem, List.mem_cons]
theorem sortU_pw : ∀ {l : List Int}, (sortU l).Pairwise (· < ·)
  | [] => .nil
  | a :: r => insU_pw (sortU_pw (l := r))
theorem same_of_pw : ∀ {a b : List Int}, a.Pairwise (· < ·) → b.Pairwise (· < ·) → (∀ x, x ∈ a ↔ x ∈ b) → a = b
  | [], [], _, _, _ => rfl
  | [], y :: s, _, _, h => absurd ((h y).mpr List.mem_cons_self) List.not_mem_nil
  | x :: r, [], _, _, h => absurd ((h x).mp List.mem_cons_self) List.not_mem_nil
  | x :: r, y :: s, ha, hb, h => by
    rw [List.pairwise_cons] at ha hb
    have e : x = y := by
      rcases List.mem_cons.mp ((h x).mp List.mem_cons_self) with q | q
      · exact q
      · rcases List.mem_cons.mp ((h y).mpr List.mem_cons_self) with q2 | q2
        · exact q2.symm
        · have := hb.1 x q; have := ha.1 y q2; omega
    subst e
    rw [same_of_pw ha.2 hb.2 fun z => by
      have q := h z
      rw [List.mem_cons, List.mem_cons] at q
      constructor
      · intro hz
        rcases q.mp (.inr hz) with e | e
        · have := ha.1 z hz; omega
        · exact e
      · intro hz
        rcases q.mpr (.inr hz) with e | e
        · have := hb.1 z hz; omega
        · exact e]
section
variable {Z : Stc} {Fo : Hp} {W : WX} {g g' : Gh} {m m' : Mst} {σ : L2.St} {H : Hp} {N N' : Nat} {X : Cx}
def rSetI (K : PySem.W.Frag) (w : World) : List V → Hp → VK → Prop := fun xs H Q => ∃ (l : Addr) (ns : List Int), xs = [.ref l] ∧ SqT K H l (ns.map V.int) ∧ ns.length < 64 ∧
  ∀ (p : Addr) (c : Nat), H p = none → c ≤ ns.length → Q (.ref p) (upd H p (SetO w p (fun j => decide (j ∈ ns)) c))
theorem cr_setI (hc : X.calm = true) : CallR X (.type "set") (rSetI X.K X.w) := by
  intro pins s σ H xs us Q I r h
  obtain ⟨l, ns, rfl, ht, hl, q⟩ := h
  obtain ⟨its, rv, tp, hz⟩ := I.tuple ht
  rw [Vals.ref1 r]
  refine call_set_tupI ns (I.ok.hd hc) tp (by simpa using rv.ints) (by unfold scanBound; omega) fun h' tk c hS hle hk => ?_
  have he : ∃ u, h'.get? s.heap.objs.size = some u := by
    have ⟨o, _, _, _, ho, _⟩ := hS
    exact ⟨o, ho⟩
  exact ⟨.ref _, _, I.laid (t' := tk) (o := SetO X.w s.heap.objs.size (fun j => decide (j ∈ ns)) c) (fun b u e => hk b u e) (Nat.le_refl _) (setO_new hS), rfl, q _ c (I.hok.fresh (Nat.le_refl _)) hle⟩
def ssetN (d : D) : Mo Ob := match d with
  | .tup ds => match intsD ds with
    | some ns => if ns.length < 64 then .ret (.lst ((sortU ns).map .int)) else .no
    | none => .no
  | _ => .no
theorem de_sset {ea : Expr} {a : Opd} {p1 p2 q1 q2 : Pos} (hK : X.K = Z.K) (hc : X.calm = true) (g1 : Gl X "sorted") (m1 : X.mg "sorted" = none) (g2 : Gl X "set") (m2 : X.mg "set" = none) (he : starEach [ea] X.env = [(false, eval ea X.env)])
    (ha : PE X ea (tO Z Fo W a)) : PE X (.Call (.Name "sorted" p1) [.Call (.Name "set" p2) [ea] [] q2] [] q1) (tN Z Fo W (opd1 a ssetN)) := by
  refine (pe_callB (cr_sortedSet hc) g1 m1 (by decide +kernel) (pa_cons (pe_callTy (cr_setI hc) g2 m2 (by decide +kernel) (pa_cons ha pa_nil he) (he := he)) pa_nil (by rfl)) (he := by rfl)).imp fun σ H Q ⟨g, m, G, h⟩ => rd_opd1 G h fun g' m' H' x d G' _ px p => ?_
  cases d with
  | tup ds =>
    cases e : intsD ds with
    | none => simp only [ssetN, e] at p; exact p.elim
    | some ns =>
      by_cases c : ns.length < 64
      · simp only [ssetN, e, if_pos c] at p
        obtain ⟨b, vs, rfl, hb, _, dv⟩ := px.tup G'
        have ev := dv.ofInts e
        subst ev
        refine ⟨b, ns, rfl, hK ▸ hb, c, fun q n hq hn => ⟨q, _, n, rfl, upd_same, by omega, fun ms r pw mem ln hr => ?_⟩⟩
        have em : ms = sortU ns := same_of_pw pw sortU_pw fun z => by rw [mem z, sortU_mem]; exact decide_eq_true_iff
        subst em
        have G2 := (G'.fresh (o := SetO X.w q (fun j => decide (j ∈ ns)) n) hq)
        have G3 := G2.fresh (o := .lst ((sortU ns).map V.int)) hr
        obtain ⟨f1, f2, f3⟩ := G2.free hr
        exact p _ _ _ G3 .rfl' ⟨r, _, rfl, upd_same, ⟨_, rfl, (by
          have : ∀ l : List Int, DVs Z g'.G g'.μ m'.S.length (l.map .int) (l.map V.int) := fun l => by
            induction l with
            | nil => exact .nil
            | cons a l ih => exact .cons (.int a) ih
          exact this _)⟩, f1, f2, f3⟩
      · simp only [ssetN, e, if_neg c] at p; exact p.elim
  | _ => exact p.elim
def plainE : Expr → Bool
  | .Starred .. => false
  | _ => true
/-! ### self.f, self.g = .. -/
def gAt (K : PySem.W.Frag) (to : TE) (f : Str) : TG := fun v σ H Q => to σ H fun x H1 => ∃ a C dx fs, x = .ref a ∧ H1 a = some (.ins C dx fs) ∧ Cls K C ∧ NoAttr K C f ∧ fs.length < 1000 ∧ Q σ (upd H1 a (.ins C dx (putF f v fs)))
theorem pg_at {o : Expr} {f : Str} {to : TE} {pos : Pos} (ho : PE X o to) : PG X (.Attribute o f pos) (gAt X.K to f) := by
  refine ⟨fun pins s σ H v u Q I r h => ?_⟩
  rw [assign_Attribute]
  refine wpAny_bind (wpAny_holding (thn (ho.run pins s σ H _ I h) fun ov s1 ⟨x, H1, I1, rx, a, C, dx, fs, ex, ea, c, n, l, q⟩ => ?_))
  subst ex
  obtain rfl : ov = Value.ref a := rx
  first
    | exact wpAny_bind (wpAny_standAt (wpAny_bind (wpAny_holding (setattr_ok I1 ea c n l r fun s3 I3 => wpAny_release ⟨σ, _, I3, q⟩))))
    | exact wpAny_bind (wpAny_standAt (wpAny_holding (setattr_ok I1 ea c n l r fun s3 I3 => ⟨σ, _, I3, q⟩)))
/-- the attributes of the object in a slot, set one behind the other -/
def setfs (i : Nat) : List Str → List D → Mo D
  | [], [] => .ret .non
  | f :: fs, d :: ds => fun m => match pkV i m with
    | some o => (setfM f d o m).bind fun _ => setfs i fs ds
    | none => .no
  | _, _ => fun _ => .no
def gFs (Z : Stc) (Fo : Hp) (W : WX) (i : Nat) (fs : List Str) : TGs := fun vs σ H Q => ∃ g m ds, Good Z Fo g m σ H ∧ DVs Z g.G g.μ m.S.length ds vs ∧ Pg Z Fo W (RD Z) g m.S.length σ (fun _ H => Q σ H) (setfs i fs ds m)
theorem setfM_slots {f : Str} {e d r : D} (h : setfM f e d m = .ok r m') : m'.ρ = m.ρ := by
  have ne : setfM f e d m ≠ .no := by rw [h]; exact fun z => nomatch z
  obtain ⟨n, c, fs, _, _, _, q⟩ := setf_at ne
  rw [q] at h
  cases h
  rfl
/-- the names of attributes of one name -/
def atsOf (x : Str) : List Expr → Option (List Str)
  | [] => some []
  | .Attribute (.Name y _) f _ :: r => if y = x then (atsOf x r).map (f :: ·) else none
  | _ => none
theorem atsOf_cons {x : Str} {t : Expr} {ts : List Expr} {l : List Str} (h : atsOf x (t :: ts) = some l) : ∃ p f q fs, t = .Attribute (.Name x p) f q ∧ l = f :: fs ∧ atsOf x ts = some fs := by
  unfold atsOf at h
  split at h
  · rename_i e; cases e
  · rename_i y p f q r e
    cases e
    split at h
    · rename_i c
      subst c
      obtain ⟨fs, e1, e2⟩ := Option.map_eq_some_iff.mp h
      exact ⟨p, f, q, fs, rfl, e2.symm, e1⟩
    · cases h
  · cases h
theorem pgs_fs {i : Nat} {x : Str} (hK : X.K = Z.K) (ho : ∀ p, PE X (.Name x p) (tVar i)) : ∀ {fs : List Str} {ts : List Expr}, (∀ f ∈ fs, f ∈ fldNames) → atsOf x ts = some fs → PGs X ts (gFs Z Fo W i fs)
  | [], [], _, _ => pgs_imp pgs_nil fun v σ H Q ⟨g, m, ds, G, r, h⟩ => by
    cases ds with
    | nil => cases r; exact ⟨rfl, h .non H g G .rfl' .non⟩
    | cons _ _ => exact h.elim
  | f :: fs, t :: ts, hf, h0 => by
    obtain ⟨p, f', q, fs', rfl, e, h1⟩ := atsOf_cons h0
    cases e
    have ih : PGs X ts (gFs Z Fo W i fs) := pgs_fs hK ho (fun z hz => hf z (List.mem_cons_of_mem _ hz)) h1
    refine pgs_imp (pgs_cons (pg_at (ho p)) ih rfl) fun v σ H Q ⟨g, m, ds, G, r, h⟩ => ?_
    cases ds with
    | nil => exact h.elim
    | cons d ds =>
      cases r with
      | @cons _ v _ vs r1 r2 =>
        simp only [setfs] at h
        cases e1 : pkV i m with
        | none => rw [e1] at h; exact h.elim
        | some o =>
          rw [e1] at h
          simp only at h
          have ne : setfM f d o m ≠ .no := fun z => by rw [z] at h; exact h
          obtain ⟨n, c, fl, rfl, e2, lt, e3⟩ := setf_at ne
          have hv : ∃ w, σ[i]? = some (some w) ∧ w = .ref (g.μ n) := by
            unfold pkV at e1
            cases e4 : m.ρ[i]? with
            | none => rw [e4] at e1; cases e1
            | some s =>
              rw [e4] at e1
              have y := G.sl i s e4
              cases s with
              | un => cases e1
              | va d' =>
                cases e1
                obtain ⟨w, q1, q2⟩ := y
                cases q2
                exact ⟨_, q1, rfl⟩
              | own o' => cases o' <;> cases e1
          obtain ⟨w, ew, rfl⟩ := hv
          obtain ⟨C, dx, fv, _, io, hi, fr, _⟩ := ins_at G e2
          rw [e3] at h
          refine ⟨v, vs, rfl, _, ew, _, C, dx, fv, rfl, hi, hK ▸ io.cls, hK ▸ io.no f (hf f List.mem_cons_self), by rw [← fr.length]; exact lt, g, _, ds, G.putf e2 hi (fr.put r1), ?_, ?_⟩
          · show DVs Z g.G g.μ (m.S.set n _).length ds vs
            rw [List.length_set]; exact r2
          · show Pg Z Fo W (RD Z) g (m.S.set n _).length σ _ _
            rw [List.length_set]; exact h
  | [], t :: ts, _, h => by obtain ⟨_, _, _, _, _, e, _⟩ := atsOf_cons h; cases e
  | f :: fs, [], _, h => by simp [atsOf] at h
def unpM (i : Nat) (fs : List Str) (f : Mo D) : Mo Fl := dropM (f.bind fun d => match seqOf d with
  | some ds => if ds.length = fs.length then setfs i fs ds else .no
  | none => .no)
theorem ds_unp {i : Nat} {x : Str} {pt pos : Pos} {kt : Nat} {fs : List Str} {ts : List Expr} {ev : Expr} {f : Mo D} (hK : X.K = Z.K) (hc : X.calm = true) (ho : ∀ p, PE X (.Name x p) (tVar i)) (hf : ∀ f ∈ fs, f ∈ fldNames) (ht : atsOf x ts = some fs)
    (hn : (assignEach ts X.env).length = fs.length) (hst : (assignEach ts X.env).findIdx? (·.1) = none)
    (hv : PE X ev (tE Z Fo W f)) (hs : swapsWithSole [.Tuple ts kt pt] ev pos.line X.env = pure false) (hw : swappedStores [.Tuple ts kt pt] ev X.env = pure none) : PS X (.Assign [.Tuple ts kt pt] ev pos) (tS Z Fo W (unpM i fs f)) := by
  have pgs := pgs_fs (Z := Z) (Fo := Fo) (W := W) hK ho hf ht
  have pgt : PG X (.Tuple ts kt pt) (gTup X.K fs.length (gFs Z Fo W i fs)) := pg_tup hc pgs hn hst
  have pl : PG X (.Tuple ts kt pt) (gLst X.K fs.length (gFs Z Fo W i fs)) := pg_lst hc pgs hn hst
  -- by what is unpacked
  let gU : TG := fun v σ H Q => ∃ g m d ds, Good Z Fo g m σ H ∧ DV Z g.G g.μ m.S.length d v ∧ seqOf d = some ds ∧ ds.length = fs.length ∧ Pg Z Fo W (RD Z) g m.S.length σ (fun _ H => Q σ H) (setfs i fs ds m)
  have pu : PG X (.Tuple ts kt pt) gU := by
    refine ⟨fun pins s σ H v u Q I rv ⟨g, m, d, ds, G, r, e, el, h⟩ => ?_⟩
    have tp : tupOf d = some ds → gTup X.K fs.length (gFs Z Fo W i fs) v σ H Q := fun z => by
      obtain ⟨a, vs, rfl, sq, rs⟩ := tup_at z G r
      exact ⟨a, vs, rfl, hK ▸ sq, by rw [← rs.length, el], g, m, ds, G, rs, h⟩
    cases d with
    | tup ds' => exact pgt.run pins s σ H v u Q I rv (tp e)
    | ktp ds' => exact pgt.run pins s σ H v u Q I rv (tp e)
    | lst ds' =>
      cases e
      obtain ⟨a, vs, rfl, sq, rs⟩ := PV.lst G (.inl r)
      exact pl.run pins s σ H _ u Q I rv ⟨a, vs, rfl, .inl sq, by rw [← rs.length, el], g, m, ds, G, rs, h⟩
    | _ => cases e
  refine ps_imp (ps_asg hv pu hs hw rfl) fun E σ H ⟨g, m, G, h⟩ => ⟨g, m, G, (Pg.bind (R := RD Z) (drop_in (σ := σ) h)).imp fun v H' ⟨d, g', m', G', E', r, e, q⟩ => ?_⟩
  cases e1 : seqOf d with
  | none => simp only [e1] at q; exact q.elim
  | some ds =>
    simp only [e1] at q
    by_cases c : ds.length = fs.length
    · rw [if_pos c] at q
      exact ⟨g', m', d, ds, G', r, e1, c, q⟩
    · rw [if_neg c] at q; exact q.elim

/-! ### a, b = e, f: which way -/
def swB (sc : Scope) (ts vs : List Expr) : Option (Option (List Str)) :=
  if !(ts.length == 2 || ts.length == 3) || vs.length != ts.length then some none
  else if vs.any fun | .Starred .. => true | _ => false then some none
  else
    let line := (ts.head?.map (·.pos.line)).getD 0
    let names := ts.filterMap fun
      | .Name id pos => if sc.names.lookup id == some .local && pos.line == line then some id else none
      | _ => none
    if names.length != ts.length || names.eraseDups.length != names.length then some none
    else if vs.all (foldedForSure 8) then some none
    else if vs.all (constantsAlone 8) then none
    else some (some names)
theorem swB_ok {env : Env} {ts vs : List Expr} {kt k2 : Nat} {pt pt2 : Pos} {r : Option (List Str)} (hb : env.scope.kind = .function) (h : swB env.scope ts vs = some r) : swappedStores [.Tuple ts kt pt] (.Tuple vs k2 pt2) env = pure r := by
  have bk : (env.blockKind != .function) = false := by unfold Env.blockKind; rw [hb]; rfl
  unfold swB at h
  unfold swappedStores
  simp only [bk, Bool.or_false]
  split at h
  · rename_i c; cases h; exact if_pos c
  · rename_i c
    refine Eq.trans (if_neg c) ?_
    split at h
    · rename_i c2; cases h; exact if_pos c2
    · rename_i c2
      refine Eq.trans (if_neg c2) ?_
      simp only at h
      split at h
      · rename_i c3; cases h; exact if_pos c3
      · rename_i c3
        refine Eq.trans (if_neg c3) ?_
        split at h
        · rename_i c4; cases h; exact if_pos c4
        · rename_i c4
          refine Eq.trans (if_neg c4) ?_
          split at h
          · cases h
          · rename_i c5; cases h; exact if_neg c5
end
end LB

namespace LB
open PySem L2 PyProof.Rows PySem.Spec

/-! ### an exception caught and kept -/
theorem xo_ok {P : Program} {w : World} {H : Hp} {h : Heap} {a : Addr} {cls : Value} {d : Option Addr} {oe : Obj} {vs : Array Value} (e : h.get? a = some oe) (z : Zc cls d oe) (k : oe.data = .fields vs) : ObjOk P w H h a (xo a cls d) :=
  ⟨⟨oe, vs, e, z, k⟩, ⟨oe, e⟩, fun _ _ ⟨o, v, q, r⟩ k => ⟨o, v, k o q, r⟩⟩
theorem track {X : Cx} {pins : List (Addr × Obj)} {σ : L2.St} {H : Hp} {s : Shared} {a : Addr} {oe : Obj} {vs : Array Value} {cls : Value} {d : Option Addr} (I : Inv X pins σ H s) (e : s.heap.get? a = some oe) (z : Zc cls d oe) (k : oe.data = .fields vs)
    (na : H a = none) (nL : a ≠ X.env.locals) (n0 : ∀ o, X.s_0.heap.get? a ≠ some o) (nc : ∀ x c, X.env.cells.lookup x = some c → c ≠ a) (np : ∀ p ∈ X.pn ++ pins, p.1 ≠ a) : Inv X pins σ (upd H a (xo a cls d)) s := by
  have keep : ∀ {b : Addr} {o : HO}, H b = some o → upd H a (xo a cls d) b = some o := fun {b o} q => by rw [upd_ne (ne_of_none q na)]; exact q
  refine ⟨I.ok, I.os, I.bare, ⟨I.base.keep, I.base.slot, fun b o q n hx => ?_, I.base.there, fun b xs q => keep (I.base.tups b xs q), fun b o u q => keep (I.base.frzs b o u q), fun b ps q => ?_⟩, I.loc, I.cell, ?_, fun x c q => ?_, fun p hp => ?_, ?_, I.len⟩
  · rw [upd_ne (fun z => n0 o (by rw [← z]; exact q))]
    exact I.base.free b o q n hx
  · obtain ⟨more, q2⟩ := I.base.tbls b ps q
    exact ⟨more, keep q2⟩
  · rw [upd_ne (Ne.symm nL)]
    exact I.free
  · rw [upd_ne (nc x c q)]
    exact I.freeC x c q
  · obtain ⟨e1, n, ne, nf, dd⟩ := I.pin p hp
    exact ⟨e1, by rw [upd_ne (np p hp)]; exact n, ne, nf, dd⟩
  · exact I.hok.laidN (fun _ _ q => q) na (xo_ok e z k)
/-- what is wished of an exception that is kept: slot i names it within, slot j behind -/
def wKp (K : PySem.W.Frag) (c : Value) (i j : Nat) (Wout : WX) (D : Ends) : WX := fun cls d σ H =>
  ∃ b, PySem.W.exmOne K cls c = some b ∧ (b = true → ∀ a, H a = none → D.nx (((σ.set i (some (.ref a))).set j (some (.ref a))).set i none) (upd H a (xo a cls d))) ∧ (b = false → Wout cls d σ H)
section
variable {X : Cx} {x n : Str} {c : Value} {i j : Nat} {body suite : List Stmt} {b₀ : Stmt} {np pos pos' : Pos} {tb : WX → TS} {Wout : WX}
def tKeep (i j : Nat) : TS := fun D σ H => ∃ v, σ[i]? = some (some v) ∧ D.nx (σ.set j (some v)) H
theorem ps_try_keep (hs : X.stack = X.env :: X.outer) (hf : X.env.frame = some X.env.locals) (hex : X.ex = []) (hN : X.N.Nodup) (hi : X.N[i]? = some n) (hln : X.env.kindOf n = some .local) (hc : Names X x c) (tk : Takes X Wout)
    (hb : ∀ (W : WX) (pn : List (Addr × Obj)) (xe : Value → Shared → Prop), Takes (X.tr pn xe) W → PassesOwn (model X.prog X.w) X.A X.env xe → PSs (X.tr pn xe) body (tb W))
    (hsu : ∀ (a : Addr) (pn : List (Addr × Obj)), PSs (X.suite a pn) (b₀ :: suite) (tKeep i j)) :
    PS X (.Try body [.ExceptHandler (some (.Name x np)) (some n) (b₀ :: suite) pos'] [] [] pos) (fun D σ H => tb (wKp X.K c i j Wout D) D σ H) := by
  refine ⟨fun pins s σ H D I h => ?_⟩
  have ok := I.ok
  have hfr : X.A.frames = some (X.env :: X.outer) := by rw [ok.frames, hs]
  have hloc : Loc X.env.scope n := .inl hln
  refine wpAny_Try_except ?_
  refine wpAny_mono ((hb (wKp X.K c i j Wout D) (X.pn ++ pins) (fun e s₁ => wpAny (model X.prog X.w) X.A (noteFrame e X.env) (fun _ s₂ => wpAny (model X.prog X.w) X.A (setFlight e none) (fun _ s₃ =>
    wpAny (model X.prog X.w) X.A (handleBy e X.env [.ExceptHandler (some (.Name x np)) (some n) (b₀ :: suite) pos']) (SP X pins D) X.xe s₃) X.xe s₂) X.xe s₁) (fun u s' xx => ?_) PassesOwn.looking).run [] s σ H D (I.toTry _) h) (fun f s1 hsp => ?_) (fun e s1 he => he)
  · -- the catch
    obtain ⟨a, B, sI, pins', σ', H', cls, d, rfl, J', nb, up, sky, na, os, ag, b, hb1, hyes, hno⟩ := xx
    have J : Inv X pins σ' H' sI := J'.ofTry ok
    have sky' : Sky B (X.env :: X.outer) a (Zc cls d) X.env.locals s'.heap := by rw [← hs]; exact sky
    show wpAny (model X.prog X.w) X.A (noteFrame (.ref a) X.env) _ _ _
    refine Sky.land Zc.steady hfr hf sky' fun h3 fl3 up3 => ?_
    have J3 : Inv X pins σ' H' { s' with heap := h3 } := J.landed nb fl3.1 (up.trans up3) os ag
    obtain ⟨oe3, vs3, he3, hz3, hd3⟩ := fl3.there
    have notFr : ∀ {h : Heap} {o : Obj} {vs : Array Value}, h.FunFrames B (X.env :: X.outer) → h.get? a = some o → o.data = .fields vs → a ∉ frs (X.env :: X.outer) := fun {h o vs} ff e dd hm => by
      obtain ⟨_, o', e', hnf⟩ := ff.mem hm
      rw [e] at e'; cases e'
      exact hnf _ dd
    have nfr := notFr fl3.2.2.1 he3 hd3
    have nL : a ≠ X.env.locals := fun z => nfr (List.mem_filterMap.mpr ⟨X.env, List.mem_cons_self, by rw [hf, z]⟩)
    have nF : a ∉ X.fs := fun hm => by
      obtain ⟨e, he, q⟩ := List.mem_filterMap.mp hm
      exact nfr (List.mem_filterMap.mpr ⟨e, List.mem_cons_of_mem _ he, q⟩)
    have fresh : ∀ o, sI.heap.get? a ≠ some o := fun o q => by
      have z := nb a o q (by rw [hs]; exact nfr)
      rw [fl3.2.1] at z
      cases z
    have S3 := J3.suite he3 hd3 na nL nF
    refine wpAny_handleBy_cons (codeAny_handlers_test ?_) (by intro q; cases q)
    have LT : PySem.W.Looks (model X.prog X.w) h3 (typeOf (.ref a)) cls := fun A Q E s k q => wpAny_typeOf_ref (k _ _ he3) (by rw [hz3.1]; exact q)
    have LM := PySem.W.exm_one (M := model X.prog X.w) (J3.kIn) LT hb1
    have test : ∀ {Q : Value → Shared → Prop} {E : Value → Shared → Prop}, Q c { s' with heap := h3 } → wpAny (model X.prog X.w) (X.A.mark (some (.ref a))) (eval (.Name x np) X.env) Q E { s' with heap := h3 } := fun {Q E} q => by
      obtain ⟨hg, hdbg, hm | ⟨hm, hv, hnn⟩⟩ := hc
      · exact ld_glob (X := X.suite a ((a, oe3) :: (X.pn ++ pins))) S3 hg hm q hdbg
      · exact ld_blt (X := X.suite a ((a, oe3) :: (X.pn ++ pins))) S3 hg hm hv q hnn hdbg
    refine test (LM.here ?_)
    cases b with
    | true =>
      refine codeAny_handlers_suite_as ?_
      refine HandSPX.lands_againZ fl3 fun h4 fl4 up4 => ?_
      have J4 : Inv X pins σ' H' { s' with heap := h4 } := J.landed nb fl4.1 ((up.trans up3).trans up4) os ag
      obtain ⟨oe4, vs4, he4, hz4, hd4⟩ := fl4.there
      have S4 := J4.suite he4 hd4 na nL nF
      refine store_ok (X := X.suite a ((a, oe4) :: (X.pn ++ pins))) (v := .ref a) S4 hN hi hloc rfl (fun s5 S5 => ?_) (.inr hln)
      have lt : i < σ'.length := by
        rw [J.len]
        exact (List.getElem?_eq_some_iff.mp hi).1
      refine wpAny_mono ((hsu a ((a, oe4) :: (X.pn ++ pins))).run [] s5 _ H' { nx := fun σ6 H6 => σ6 = (σ'.set i (some (.ref a))).set j (some (.ref a)) ∧ H6 = H', rt := fun _ _ => False, bk := fun _ _ => False, ct := fun _ _ => False } S5 ⟨.ref a, List.getElem?_set_self lt, rfl, rfl⟩) (fun f s6 hsp => ?_) (fun _ _ z => False.elim z)
      cases f with
      | next =>
        obtain ⟨σ6, H6, S6, e1, e2⟩ := hsp
        subst e1 e2
        obtain ⟨p1, _⟩ := S6.pin (a, oe4) (List.mem_append_left _ List.mem_cons_self)
        have U := S6.unsuite ok
        have T := track (X := X) (cls := cls) (d := d) U p1 hz4 hd4 na nL (fun o q => by
            obtain ⟨o', z⟩ := J.base.there a o q (by rw [hex]; exact fun z => nomatch z)
            exact fresh o' z) (fun y k q z => by
            obtain ⟨v, o, q2, _⟩ := J.cell y k q
            exact fresh o (by rw [← show k = a from z]; exact q2)) (fun p hp z => by
            obtain ⟨q, _⟩ := J.pin p hp
            exact fresh p.2 (by rw [← show p.1 = a from z]; exact q))
        exact gone_ok T hN hi hln fun s7 J7 => ⟨_, _, J7, hyes rfl a na⟩
      | brk =>
        obtain ⟨_, _, _, z⟩ := hsp
        exact z.elim
      | cont =>
        obtain ⟨_, _, _, z⟩ := hsp
        exact z.elim
      | ret u =>
        obtain ⟨_, _, _, _, _, z⟩ := hsp
        exact z.elim
    | false =>
      show wpAny _ X.A (handleBy (.ref a) X.env []) _ _ _
      refine wpAny_handleBy_nil ?_
      obtain ⟨k1, k2, k3, oe, vs, T, oT, ts', he, hz, hd, h1, hr⟩ := id fl3
      unfold PySem.passOn
      refine wpAny_bind (wpAny_field he hd h1 ?_)
      rw [if_neg (show ¬ ((Value.ref T == Value.none) = true) from by simp)]
      have fin : wpAny (model X.prog X.w) X.A (setFlight (.ref a) X.env.frame) (fun _ s4 => wpAny (model X.prog X.w) X.A (throw (.ref a) : Sem Flow) (SP X pins D) X.xe s4) X.xe { s' with heap := h3 } := by
        rw [hf]
        refine HandSPX.setFlight_upZ fl3 fun h4 hh4 up4 => wpAny_throw (tk _ _ ?_)
        exact ⟨a, B, sI, pins, σ', H', cls, d, rfl, J, nb, (up.trans up3).trans up4, .inr (.inr (by rw [hs]; exact hh4)), na, os, ag, hno rfl⟩
      first
        | exact wpAny_bind (wpAny_pure (wpAny_bind fin))
        | exact wpAny_bind fin
  · cases f with
    | next =>
      obtain ⟨σ', H', J', q⟩ := hsp
      exact wpAny_execs_nil ⟨σ', H', J'.ofTry ok, q⟩
    | brk =>
      obtain ⟨σ', H', J', q⟩ := hsp
      exact ⟨σ', H', J'.ofTry ok, q⟩
    | cont =>
      obtain ⟨σ', H', J', q⟩ := hsp
      exact ⟨σ', H', J'.ofTry ok, q⟩
    | ret u =>
      obtain ⟨v, σ', H', J', r, q⟩ := hsp
      exact ⟨v, σ', H', J'.ofTry ok, r, q⟩
end

/-! ### the same, of data -/
/-- what the head says of an own class of exceptions without own __init__ -/
def veB : List Value := [.type "ValueError", .type "Exception", .type "BaseException", .type "object"]
structure ExMk (K : PySem.W.Frag) (C : Addr) : Prop where
  ex : PySem.W.excIn K C veB "ValueError.__new__" = true
  kp : PySem.W.keepIn K (.ref C) = true
  r1 : PySem.W.subIn K (.ref C) (.type "BaseException") = some true
  r2 : PySem.W.typeIn K (.ref C) = some (.type "type")
/-- a class by its name, an own one or ValueError -/
def ClsAt (mg : Str → Option Value) (c : Str) (cv : Value) : Prop := (∃ C, cv = .ref C ∧ mg c = some (.ref C)) ∨ (c = ("ValueError" : Str) ∧ cv = .type "ValueError" ∧ mg c = none)
/-- an exception of the class c, asked for c' -/
structure SubAt (K : PySem.W.Frag) (mg : Str → Option Value) (c c' : Str) (b : Bool) : Prop where
  at_ : ∃ C cv, mg c = some (.ref C) ∧ ExcC K C ∧ ClsAt mg c' cv ∧ PySem.W.kitOne K (.ref C) cv = some b ∧ PySem.W.exmOne K (.ref C) cv = some b
def excD : Xc → Option D
  | ⟨c, []⟩ => some (.exo c)
  | ⟨c, [(f, d)]⟩ => some (.exf c f d)
  | _ => none
def trM (tbl : List (Str × Bool)) (i j : Nat) (b : Mo Fl) : Mo Fl := fun m => match b m with
  | .exc x m' => match tbl.lookup x.c, excD x with
    | some true, some d => .ok .nx { m' with ρ := (((m'.ρ.set i (.va d)).set j (.va d)).set i .un) }
    | some false, _ => .exc x m'
    | _, _ => .no
  | r => r
def raiM (c : Str) : Mo Fl := fun m => .exc ⟨c, []⟩ m
section
variable {Z : Stc} {Fo : Hp} {W : WX} {X : Cx} {g : Gh} {m : Mst} {σ : L2.St} {H : Hp}
theorem Good.dropv {i : Nat} (G : Good Z Fo g m σ H) : Good Z Fo g { m with ρ := m.ρ.set i .un } (σ.set i none) H := by
  refine ⟨G.s, by simp [G.len], fun j s e => ?_⟩
  have e' : (m.ρ.set i .un)[j]? = some s := e
  by_cases h : i = j
  · subst h
    by_cases lt : i < m.ρ.length
    · rw [List.getElem?_set_self lt] at e'
      cases e'
      trivial
    · rw [List.getElem?_eq_none (by simpa using Nat.le_of_not_lt lt)] at e'
      cases e'
  · rw [List.getElem?_set_ne h] at e'
    have x := G.sl j s e'
    cases s with
    | un => trivial
    | va d => obtain ⟨v, q1, q2⟩ := x; exact ⟨v, by rw [List.getElem?_set_ne h]; exact q1, q2⟩
    | own o => obtain ⟨a, h', q1, q2, q3, q4⟩ := x; exact ⟨a, h', by rw [List.getElem?_set_ne h]; exact q1, q2, q3, q4⟩
theorem exc_dv {x : Xc} {cls : Value} {dd : Option Addr} {a : Addr} {N : Nat} {d : D} (r : ExcR Z g N x cls dd H) (na : g.G a = none) (e : excD x = some d) : DV Z (g.keep a (xo a cls dd)).G g.μ N d (.ref a) := by
  obtain ⟨C, hm, rfl, q⟩ := r
  have ka : (g.keep a (xo a (.ref C) dd)).G a = some (xo a (.ref C) dd) := by
    show (if a = a then _ else _) = _
    rw [if_pos rfl]
  match x, q, e with
  | ⟨c, []⟩, q, e =>
    cases e
    have q : dd = none := q
    subst q
    exact .exo hm ka
  | ⟨c, [(f, d)]⟩, q, e =>
    cases e
    obtain ⟨b, v, rfl, hb, hd⟩ := q
    have nb : b ≠ a := fun z => by rw [z, na] at hb; cases hb
    refine .exf hm ka ?_ (hd.mor ⟨fun y o h => ?_, fun _ _ => rfl, Nat.le_refl _⟩)
    · show (if b = a then _ else _) = _
      rw [if_neg nb]
      exact hb
    · show (if y = a then _ else _) = _
      rw [if_neg (fun z => by rw [z, na] at h; cases h)]
      exact h
theorem ds_try {x n : Str} {c : Value} {i j : Nat} {body suite : List Stmt} {b₀ : Stmt} {np pos pos' : Pos} {b : Mo Fl} {tbl : List (Str × Bool)} (hK : X.K = Z.K) (hs : X.stack = X.env :: X.outer) (hf : X.env.frame = some X.env.locals) (hex : X.ex = []) (hN : X.N.Nodup) (hi : X.N[i]? = some n) (hln : X.env.kindOf n = some .local) (hc : Names X x c) (tk : Takes X W)
    (ht : ∀ cn k, tbl.lookup cn = some k → ∀ C, Z.mg cn = some (.ref C) → PySem.W.exmOne X.K (.ref C) c = some k)
    (hb : ∀ (W : WX) (pn : List (Addr × Obj)) (xe : Value → Shared → Prop), Takes (X.tr pn xe) W → PassesOwn (model X.prog X.w) X.A X.env xe → PSs (X.tr pn xe) body (tS Z Fo W b))
    (hsu : ∀ (a : Addr) (pn : List (Addr × Obj)), PSs (X.suite a pn) (b₀ :: suite) (tKeep i j)) :
    PS X (.Try body [.ExceptHandler (some (.Name x np)) (some n) (b₀ :: suite) pos'] [] [] pos) (tS Z Fo W (trM tbl i j b)) :=
  ps_imp (ps_try_keep (tb := fun W => tS Z Fo W b) hs hf hex hN hi hln hc tk hb hsu) fun E σ H ⟨g, m, G, h⟩ => ⟨g, m, G, by
    unfold trM at h
    cases e : b m with
    | no => rw [e] at h; exact h
    | ok k m' => rw [e] at h; cases k <;> exact h
    | exc y m' =>
      rw [e] at h
      dsimp only at h
      intro cls dd σ' H' g' G' E' r
      obtain ⟨C, hm, ec, q⟩ := id r
      cases e1 : tbl.lookup y.c with
      | none => rw [e1] at h; exact h.elim
      | some k =>
        have hx := ht _ _ e1 C hm
        rw [← ec] at hx
        refine ⟨k, hx, fun ek a na => ?_, fun ek => ?_⟩
        · subst ek
          cases e2 : excD y with
          | none => rw [e1, e2] at h; exact h.elim
          | some d =>
            rw [e1, e2] at h
            obtain ⟨G2, E2⟩ := G'.laid (h := xo a cls dd) na
            have dv : DV Z (g'.keep a (xo a cls dd)).G (g'.keep a (xo a cls dd)).μ m'.S.length d (.ref a) := exc_dv r (G'.free na).1 e2
            exact h _ _ _ (((G2.setv (i := i) dv).setv (i := j) dv).dropv (i := i)) (E'.trans E2)
        · subst ek
          rw [e1] at h
          exact h cls dd σ' H' g' G' E' r⟩
theorem ds_raise {c s : Str} {j : Nat} {C : Addr} {p p2 p3 pos : Pos} (hK : X.K = Z.K) (hmg : X.mg = Z.mg) (hc : X.calm = true) (tk : Takes X W) (gC : X.mg c = some (.ref C)) (M : ExMk X.K C) (hg : Gl X c) (hdb : (c == ("__debug__" : Str)) = false) :
    PS X (.Raise (some (.Call (.Name c p) [.Constant (.str s) j p2] [] p3)) none pos) (tS Z Fo W (raiM c)) :=
  ps_imp (ps_raise hc tk (pmk_own PySem.F.excBase_ValueError (show PySem.W.excIn X.K C [.type "ValueError", .type "Exception", .type "BaseException", .type "object"] "ValueError.__new__" = true from M.ex) gC M.kp (raises_own M.r1 M.r2) hg hdb)) fun E σ H ⟨g, m, G, h⟩ =>
    h _ _ _ _ g G .rfl' ⟨C, hmg ▸ gC, rfl, rfl⟩
/-! isinstance of what was caught -/
def rIsX (K : PySem.W.Frag) : List V → Hp → VK → Prop := fun xs H Q => ∃ (a D : Addr) (c : V) (cv : Value) (b : Bool), xs = [.ref a, c] ∧ (∃ dd, H a = some (xo a (.ref D) dd) ∧ ∀ b, dd = some b → ∃ fs, H b = some (.xd fs)) ∧ ExcC K D ∧ (∀ u, RelV c u → u = cv) ∧ PySem.W.kitOne K (.ref D) cv = some b ∧ Q (.bl b) H
theorem call_isX : CallR X (.builtin "isinstance") (rIsX X.K) := by
  intro pins s σ H xs us Q I r h
  obtain ⟨a, D, c, cv, b, rfl, ha, C, hcv, e, q⟩ := h
  cases r with
  | cons rx rr =>
    cases rr with
    | cons rt rr =>
      cases rr
      cases rx
      have ec := hcv _ rt
      subst ec
      obtain ⟨dd, ha, hdd⟩ := ha
      obtain ⟨⟨oe, vs, hget, ⟨h1, h2⟩, hv⟩, _, _⟩ := I.hok a _ ha
      have J : ∃ od, PySem.W.InstAt s.heap a oe D od := by
        cases dd with
        | none => exact ⟨none, hget, h1, by unfold PySem.W.notCls; rw [hv] <;> rfl, by rw [h2] <;> trivial⟩
        | some b =>
          obtain ⟨fs, hb⟩ := hdd b rfl
          obtain ⟨mA, hns, hr⟩ := (show ObjOk X.prog X.w H s.heap b (.xd fs) from I.hok b _ hb)
          obtain ⟨od, es, ep, ho, _⟩ := hns
          exact ⟨some od, hget, h1, by unfold PySem.W.notCls; rw [hv] <;> rfl, by rw [h2]; exact ho⟩
      obtain ⟨od, J⟩ := J
      have hcl : (PySem.W.clsIn X.K D).isSome = true := by
        obtain ⟨cd, hc, _⟩ := PySem.W.any_some C.hd
        rw [hc]; rfl
      exact PySem.W.kia_one (PySem.W.kitx_exc hcl C.hg C.hk C.hs C.ha C.hn C.ht C.hm) I.kIn J e (fun z => nomatch z) fun tk => ⟨.bl b, H, I.kept (t' := tk) fun _ _ z => z, rfl, q⟩
def isxM (tbl : List (Str × Bool)) (d : D) : Mo D := match d with
  | .exo c => .opt ((tbl.lookup c).map .bl)
  | .exf c _ _ => .opt ((tbl.lookup c).map .bl)
  | _ => .no
theorem cls_pe {c : Str} {cv : Value} {p : Pos} (h : ClsAt X.mg c cv) (hg : Gl X c) (hd : (c == ("__debug__" : Str)) = false) : ∃ v, PE X (.Name c p) (tC v) ∧ ∀ u, RelV v u → u = cv := by
  rcases h with ⟨C, rfl, hm⟩ | ⟨rfl, rfl, hm⟩
  · exact ⟨.ref C, pe_glob hg hm rfl hd, fun u r => r⟩
  · exact ⟨.ty "ValueError", pe_bltn hg hm PyProof.Rows.Boot.«ValueError» rfl (by decide +kernel) hd, fun u r => r⟩
theorem de_isx {ea : Expr} {a : Opd} {c : Str} {cv : Value} {p p2 pos : Pos} {tbl : List (Str × Bool)} (hK : X.K = Z.K) (hg : Gl X "isinstance") (hm : X.mg "isinstance" = none) (hg2 : Gl X c) (hd : (c == ("__debug__" : Str)) = false) (hc : ClsAt X.mg c cv)
    (ht : ∀ cn k, tbl.lookup cn = some k → ∀ C, Z.mg cn = some (.ref C) → ExcC X.K C ∧ PySem.W.kitOne X.K (.ref C) cv = some k)
    (he : starEach [ea, .Name c p2] X.env = [(false, eval ea X.env), (false, eval (.Name c p2) X.env)]) (ha : PE X ea (tO Z Fo W a)) :
    PE X (.Call (.Name "isinstance" p) [ea, .Name c p2] [] pos) (tE Z Fo W (opd1 a (isxM tbl))) := by
  obtain ⟨v, pe, hv⟩ := cls_pe (p := p2) hc hg2 hd
  refine (pe_callB call_isX hg hm (by decide +kernel) (pa_cons ha (pa_cons pe pa_nil (by rfl)) he) (he := he)).imp fun σ H Q ⟨g, m, G, h⟩ => rd_opd1 G h fun g' m' H' x d G' _ px q => ?_
  cases d with
  | exo cn =>
    cases e1 : tbl.lookup cn with
    | none => simp only [isxM, e1, Option.map_none] at q; exact q.elim
    | some k =>
      simp only [isxM, e1, Option.map_some] at q
      rcases px with r | ⟨_, _, o, _, _, eo, _⟩
      · cases r with
        | exo h1 h2 =>
          rename_i b C
          obtain ⟨k1, k2⟩ := ht _ _ e1 C h1
          exact ⟨b, C, v, cv, k, rfl, ⟨none, G'.s.gh _ _ h2, fun _ z => nomatch z⟩, k1, hv, k2, q _ _ _ G' .rfl' (.bl k)⟩
      · cases o <;> cases eo
  | exf cn f0 d0 =>
    cases e1 : tbl.lookup cn with
    | none => simp only [isxM, e1, Option.map_none] at q; exact q.elim
    | some k =>
      simp only [isxM, e1, Option.map_some] at q
      rcases px with r | ⟨_, _, o, _, _, eo, _⟩
      · cases r with
        | exf h1 h2 h3 h4 =>
          rename_i b C b2 v2
          obtain ⟨k1, k2⟩ := ht _ _ e1 C h1
          exact ⟨b, C, v, cv, k, rfl, ⟨some b2, G'.s.gh _ _ h2, fun _ z => by cases z; exact ⟨_, G'.s.gh _ _ h3⟩⟩, k1, hv, k2, q _ _ _ G' .rfl' (.bl k)⟩
      · cases o <;> cases eo
  | _ => exact q.elim
end
end LB

namespace LB
open PySem L2 PyProof.Rows PySem.Spec

/-! ### a class of exceptions with an __init__ that keeps a field -/
section
variable {X : Cx} {e : Expr} {es : List Expr} {ta : TA} {B : Str} {CB : Addr} {p1 p2 pos : Pos}
theorem pe_clsinit (hg : Gl X B) (hm : X.mg B = some (.ref CB)) (hdb : (B == ("__debug__" : Str)) = false) (hr : PySem.W.readsIn X.K CB (.type "type") = true) (hs : PySem.W.specialIn X.K (.ref CB) "__getattribute__" = some (some (.builtin "type.__getattribute__")))
    (vV : PySem.W.findCls X.K (.ref CB) (.type "type") "__init__" = some (.val (.builtin "ValueError.__init__"))) (ha : PA X (e :: es) ta)
    (hb : attributeBase (.Name B p1) "__init__" X.env (eval (.Name B p1) X.env) = eval (.Name B p1) X.env)
    (hfew : ((backTo pos (starEach (e :: es) X.env)).all (fun x => !x.1) && (backToKw pos (keywordEach [] X.env)).all (fun x => x.1.isSome) && decide ((e :: es).length + ([] : List Keyword).length + (if ([] : List Keyword).isEmpty then 0 else 1) < 30)) = true) (hli : (p2.endLine == pos.line) = true)
    (he : starEach (e :: es) X.env = (false, eval e X.env) :: starEach es X.env) (hpl : (backTo pos (starEach es X.env)).any (·.1) = false) :
    PE X (.Call (.Attribute (.Name B p1) "__init__" p2) (e :: es) [] pos) (tVeI X.K ta) := by
  refine ⟨fun pins s σ H Q I h => ?_⟩
  have hform : methodCallForm ((e :: es).length + ([] : List Keyword).length) (backTo pos (starEach (e :: es) X.env)) (backToKw pos (keywordEach [] X.env)) = true := hfew
  have hpos : methodCallPos true (.Name B p1) X.env p2 pos = pure pos := by unfold methodCallPos; simp [hli]
  rw [arm_eval_Call, hb]
  refine wpAny_bind (ld_glob I hg hm ?_ hdb)
  refine wpAny_bind (wpAny_standAt ?_)
  unfold methodCall
  rw [hform]
  refine wpAny_bind (wpAny_holding (PySem.W.method_cls I.kIn hs (PySem.W.cls_value I.kIn hr vV (by decide +kernel) ?_)))
  refine wpAny_bind (wpAny_of_eq hpos ?_)
  refine PyProof.Rows.callWith_method1 (thn (ha.run pos pins _ σ H _ (I.tok _) h) fun us s1 ⟨vs, H1, I1, r1, a, C, ws, ev, hl, T, ea, q⟩ => ?_) he hpl
  subst ev
  cases r1 with
  | @cons _ u0 _ ur ra rw' =>
    obtain rfl : u0 = Value.ref a := ra
    have hlen : ur.length ≤ sizeLine := by
      rw [← Paired.length rw', sizeLine_eq]
      omega
    exact oinit_ok T I1 ea hlen fun s' J => ⟨.non, H1, J, rfl, q⟩
end
/-- what such an __init__ keeps: the field f -/
def spI (K : PySem.W.Frag) (f : Str) : Sp := fun vs H Q _ => ∃ (a C : Addr) (v : V), vs = [.ref a, v] ∧ OexC K C ∧ PySem.W.findIn K (.ref C) f = some none ∧ H a = some (exo a C none) ∧ ∀ dx, H dx = none → dx ≠ a → Q .non (upd (upd H dx (exd dx [(f, v)])) a (exo a C (some dx)))
theorem init_ok {P : Program} {w : World} {K : PySem.W.Frag} {mg : Str → Option Value} {base : Heap} {k : Nat} {fI CB : Addr} {fd : FuncData} {qual : Str} {ar : Arguments} {scope : Scope} {self pn B f t : Str} {j : Nat} {p1 p2 p3 p4 p5 p6 p7 p8 p9 p10 : Pos}
    (F : FunD K "__init__" qual ar [.Expr (.Call (.Attribute (.Name B p1) "__init__" p2) [.Name self p3, .Constant (.str t) j p4] [] p5) p6, .Assign [.Attribute (.Name self p7) f p8] (.Name pn p9) p10] scope [] [] fI fd)
    (S : FnScope [self, pn] [self, pn] scope) (hl1 : scope.names.lookup self = some .local) (hl2 : scope.names.lookup pn = some .local) (hB : scope.names.lookup B = some .globalImplicit) (mB : mg B = some (.ref CB)) (hdb : (B == ("__debug__" : Str)) = false)
    (d1 : (self == ("__debug__" : Str)) = false) (d2 : (self == ("__classdict__" : Str)) = false) (d3 : (pn == ("__debug__" : Str)) = false) (d4 : (pn == ("__classdict__" : Str)) = false)
    (hr : PySem.W.readsIn K CB (.type "type") = true) (hs : PySem.W.specialIn K (.ref CB) "__getattribute__" = some (some (.builtin "type.__getattribute__"))) (vV : PySem.W.findCls K (.ref CB) (.type "type") "__init__" = some (.val (.builtin "ValueError.__init__")))
    (hline : (p2.endLine == p5.line) = true) :
    FnOk P w K mg base (L2.CX P w) (k + 1) fI fd [self, pn] (spI K f) := by
  refine F.ok S (fun vs H Q E ⟨_, _, _, e, _⟩ => by rw [e]; rfl) fun cdv A outer s H vs Q E hr' hsp => ?_
  have v0 : Vis (cxOf (L2.CX P w) P w K mg base [self, pn] qual scope fI cdv A outer s H E).env.scope self := .inl hl1
  have v1 : Vis (cxOf (L2.CX P w) P w K mg base [self, pn] qual scope fI cdv A outer s H E).env.scope pn := .inl hl2
  refine ⟨_, pss_cons (ps_expr (pe_clsinit hB mB hdb hr hs vV (pa_cons (pe_var (i := 0) rfl v0 d1 d2) (pa_cons pe_str pa_nil)) (by rfl) (by rfl) hline (by rfl) (by rfl))) (pss_cons (ps_ost (pe_var (i := 0) rfl v0 d1 d2) (pe_var (i := 1) rfl v1 d3 d4)) pss_nil), ?_⟩
  obtain ⟨a, C, v, rfl, T, hf, ea, q⟩ := hsp
  refine ⟨.ref a, rfl, a, C, [.str t], rfl, by simp, T, ea, v, rfl, .ref a, rfl, a, C, rfl, T, hf, .inl ⟨ea, fun dx n ne => q dx n ne⟩⟩

/-! ### the same, of data -/
/-- what the head says of a class whose __init__ keeps the field f -/
structure ExIn (P : Program) (w : World) (K : PySem.W.Frag) (mg : Str → Option Value) (base : Heap) (C : Addr) (f : Str) : Prop where
  oex : OexC K C
  nf : PySem.W.findIn K (.ref C) f = some none
  ini : ∃ fI fd ps, PySem.W.findIn K (.ref C) "__init__" = some (some (.ref fI)) ∧ PySem.W.typeIn K (.ref fI) = some (.type "function") ∧ FnOk P w K mg base (L2.CX P w) 1 fI fd ps (spI K f) ∧ Binds K fd ps []
/-- raise C(e) -/
def rafM (c f : Str) (e : Mo D) : Mo Fl := e.bind fun d m => .exc ⟨c, [(f, d)]⟩ m
section
variable {Z : Stc} {Fo : Hp} {W : WX} {X : Cx} {g : Gh} {m : Mst} {σ : L2.St} {H : Hp}
theorem ds_raf {c f : Str} {C : Addr} {ea : Expr} {e : Mo D} {p p3 pos : Pos} (hmg : X.mg = Z.mg) (hc : X.calm = true) (rm : RoomG 2 X.A) (tk : Takes X W) (gC : X.mg c = some (.ref C)) (M : ExIn X.prog X.w X.K X.mg X.base C f) (hg : Gl X c) (hdb : (c == ("__debug__" : Str)) = false)
    (he : starEach [ea] X.env = (false, eval ea X.env) :: starEach [] X.env) (ha : PE X ea (tE Z Fo W e)) :
    PS X (.Raise (some (.Call (.Name c p) [ea] [] p3)) none pos) (tS Z Fo W (rafM c f e)) := by
  obtain ⟨fI, fd, ps, i1, i2, F1, hb⟩ := M.ini
  refine ps_imp (ps_raise hc tk (pmk_oex M.oex i1 i2 F1 rm.room hb .nil (passes_call tk fun _ _ _ _ z => z.elim) hg gC (pa_cons ha pa_nil he) hdb he (by rfl))) fun E σ H ⟨g, m, G, h⟩ => ?_
  refine ⟨g, m, G, (PoS.ahead (R := RD Z) h).imp fun v H1 ⟨d, g', m', G', E', r, _, q⟩ => ⟨by simp, fun a na => ⟨a, C, v, by simp, M.oex, M.nf, upd_same, fun dx nd ne => ?_⟩⟩⟩
  have nd1 : H1 dx = none := by rw [← nd, upd_ne ne]
  refine ⟨rfl, dx, [(f, v)], upd_same, by rw [upd_ne ne, upd_same], nd1, ?_⟩
  have eH : upd (L2.del (upd (upd (upd H1 a (exo a C none)) dx (exd dx [(f, v)])) a (exo a C (some dx))) a) dx (.xd [(f, v)]) = upd H1 dx (.xd [(f, v)]) := by
    funext b
    by_cases h1 : b = dx
    · rw [h1, upd_same, upd_same]
    · rw [upd_ne h1, upd_ne h1]
      by_cases h2 : b = a
      · rw [h2, del_same, na]
      · rw [del_ne h2, upd_ne h2, upd_ne h1, upd_ne h2]
  rw [eH]
  obtain ⟨G2, E2⟩ := G'.laid (h := .xd [(f, v)]) nd1
  refine q (.ref C) (some dx) σ _ _ G2 E2 ⟨C, hmg ▸ gC, rfl, dx, v, rfl, ?_, r.ext E2⟩
  show (if dx = dx then _ else _) = _
  rw [if_pos rfl]
/-! the field of what was caught -/
def xfM (cs : List Str) (f : Str) (d : D) : Mo D := match d with
  | .exf c f' d => if c ∈ cs ∧ f' = f then .ret d else .no
  | _ => .no
def tXg (K : PySem.W.Frag) (f : Str) (te : TE) : TE := fun σ H Q => te σ H fun x H1 => ∃ (a C dd : Addr) (fs : List (Str × V)) (v : V), x = .ref a ∧ H1 a = some (xo a (.ref C) (some dd)) ∧ XfC K C ∧ PySem.W.findIn K (.ref C) f = some none ∧ H1 dd = some (.xd fs) ∧ fs.lookup f = some v ∧ Q v H1
theorem pe_xg {e : Expr} {te : TE} {pos : Pos} {n : Str} (he : PE X e te) (hb : attributeBase e n X.env (eval e X.env) = eval e X.env) : PE X (.Attribute e n pos) (tXg X.K n te) := by
  refine ⟨fun pins s σ H Q I h => ?_⟩
  refine attr_of hb (thn (he.run pins s σ H _ I h) fun u s1 hh => ?_)
  obtain ⟨x, H1, I1, rx, a, C, dd, fs, v, ex, ea, T, hno, ed, l, q⟩ := hh
  subst ex
  obtain rfl : u = Value.ref a := rx
  obtain ⟨⟨oe, vs, hget, ⟨h1, h2⟩, hv⟩, _, _⟩ := I1.hok a _ ea
  have hx : ObjOk X.prog X.w H1 s1.heap dd (.xd fs) := I1.hok dd _ ed
  obtain ⟨mA, hns, hr⟩ := hx
  obtain ⟨od, ho, hl⟩ := lookIn_ns hns
  obtain ⟨u, hu, ru⟩ := RelO.some_of (v := v) (o := mA n) (by rw [← l]; exact hr n)
  have J : PySem.W.InstAt s1.heap a oe C (some od) := ⟨hget, h1, by unfold PySem.W.notCls; rw [hv] <;> rfl, by rw [h2]; exact ho⟩
  exact HandSPX.exc_get I1.kIn J T.ga T.gg T.exC (PySem.W.findObj_own T.hdC hno rfl (by rw [hl, hu])) (handed_of ru) ⟨v, H1, I1.tok _, ru, q⟩
theorem de_xf {ea : Expr} {a : Opd} {f : Str} {cs : List Str} {pos : Pos} (hK : X.K = Z.K) (hT : ∀ c ∈ cs, ∀ C, Z.mg c = some (.ref C) → XfC X.K C ∧ PySem.W.findIn X.K (.ref C) f = some none) (ha : PE X ea (tO Z Fo W a)) (hb : attributeBase ea f X.env (eval ea X.env) = eval ea X.env) :
    PE X (.Attribute ea f pos) (tE Z Fo W (opd1 a (xfM cs f))) :=
  (pe_xg ha hb).imp fun σ H Q ⟨g, m, G, h⟩ => rd_opd1 G h fun g' m' H' x d G' _ px q => by
    cases d with
    | exf c f0 d0 =>
      by_cases h0 : c ∈ cs ∧ f0 = f
      · simp only [xfM, if_pos h0] at q
        obtain ⟨h1, rfl⟩ := h0
        rcases px with r | ⟨_, _, o, _, _, eo, _⟩
        · cases r with
          | exf k1 k2 k3 k4 =>
            rename_i b C b2 v2
            obtain ⟨t1, t2⟩ := hT c h1 C k1
            exact ⟨b, C, b2, _, v2, rfl, G'.s.gh _ _ k2, t1, t2, G'.s.gh _ _ k3, by simp [List.lookup], q _ _ _ G' .rfl' k4⟩
        · cases o <;> cases eo
      · simp only [xfM, if_neg h0] at q
        exact q.elim
    | _ => exact q.elim
/-! a clause without a name: a constant told, or given to a name -/
def conV : D → Option V
  | .non => some .non | .bl b => some (.bl b) | .int i => some (.int i) | .str x => some (.str x)
  | _ => none
theorem conV_dv {d : D} {v : V} {G : Hp} {μ : Nat → Addr} {N : Nat} (h : conV d = some v) : DV Z G μ N d v := by
  cases d <;> simp only [conV, Option.some.injEq] at h <;> first | (subst h; constructor) | cases h
def endM (r : Option Nat) (d : D) : Mo Fl := fun m => match r with
  | none => .ok (.rt d) m
  | some j => .ok .nx { m with ρ := m.ρ.set j (.va d) }
def troM (tbl : List (Str × Bool)) (r : Option Nat) (d : D) (b : Mo Fl) : Mo Fl := fun m => match b m with
  | .exc x m' => match tbl.lookup x.c with
    | some true => endM r d m'
    | some false => .exc x m'
    | none => .no
  | k => k
def tSui (r : Option Nat) (v : V) : TS := fun D σ H => match r with
  | none => D.rt v H
  | some j => D.nx (σ.set j (some v)) H
theorem ds_tro {x : Str} {c : Value} {r : Option Nat} {d : D} {v : V} {body suite : List Stmt} {b₀ : Stmt} {np pos pos' : Pos} {b : Mo Fl} {tbl : List (Str × Bool)} (hs : X.stack = X.env :: X.outer) (hf : X.env.frame = some X.env.locals) (hc : Names X x c) (tk : Takes X W)
    (hd : conV d = some v) (hK : X.K = Z.K)
    (ht : ∀ cn k, tbl.lookup cn = some k → ∀ C, Z.mg cn = some (.ref C) → PySem.W.exmOne X.K (.ref C) c = some k)
    (hb : ∀ (W : WX) (pn : List (Addr × Obj)) (xe : Value → Shared → Prop), Takes (X.tr pn xe) W → PassesOwn (model X.prog X.w) X.A X.env xe → PSs (X.tr pn xe) body (tS Z Fo W b))
    (hsu : ∀ (a : Addr) (pn : List (Addr × Obj)), PSs (X.suite a pn) (b₀ :: suite) (tSui r v)) :
    PS X (.Try body [.ExceptHandler (some (.Name x np)) none (b₀ :: suite) pos'] [] [] pos) (tS Z Fo W (troM tbl r d b)) :=
  ps_imp (ps_try_only (tb := fun W => tS Z Fo W b) (ts := fun _ _ _ => tSui r v) hs hf hc tk hb (fun a oe cls dd pn _ _ => hsu a ((a, oe) :: pn))) fun E σ H ⟨g, m, G, h⟩ => ⟨g, m, G, by
    unfold troM at h
    cases e : b m with
    | no => rw [e] at h; exact h
    | ok k m' => rw [e] at h; cases k <;> exact h
    | exc y m' =>
      rw [e] at h
      dsimp only at h
      intro cls dd σ' H' g' G' E' q
      obtain ⟨C, hm, ec, _⟩ := id q
      cases e1 : tbl.lookup y.c with
      | none => rw [e1] at h; exact h.elim
      | some k =>
        have hx := ht _ _ e1 C hm
        rw [← ec] at hx
        refine ⟨k, hx, fun ek a na => ?_, fun ek => ?_⟩
        · subst ek
          rw [e1] at h
          unfold endM at h
          cases r with
          | none => exact h v σ' H' g' G' E' (conV_dv hd)
          | some j => exact h _ H' g' (G'.setv (conV_dv hd)) E'
        · subst ek
          rw [e1] at h
          exact h cls dd σ' H' g' G' E' q⟩
theorem sui_con {Y : Cx} {c : Const} {d : D} {v : V} {k : Nat} {p : Pos} (h : (match c with | .none => some D.non | .bool b => some (.bl b) | .int i => some (.int i) | .str x => some (.str x) | _ => none) = some d) (hd : conV d = some v) : PE Y (.Constant c k p) (tC v) := by
  cases c <;> first | (cases h; cases hd; exact pe_non) | (cases h; cases hd; exact pe_bl) | (cases h; cases hd; exact pe_int) | (cases h; cases hd; exact pe_str) | cases h
end
end LB

namespace LB
open PySem L2 PyProof.Rows PySem.Spec
/-! ### list.count of flat data -/
def rCntF (K : PySem.W.Frag) : V → List V → Hp → VK → Prop := fun x xs H Q => ∃ (p : Addr) (ys : List V) (y : V), x = .ref p ∧ xs = [y] ∧ SqL K H p ys ∧ flatV y = true ∧ ys.all flatV = true ∧ Q (.int (ys.countP (fun z => eqV z y) : Nat)) H
theorem countU {y : V} : ∀ {ys : List V} {us : List Value}, Vals ys us → ys.all flatV = true → us.countP (eqU y) = ys.countP fun z => eqV z y
  | _, _, .nil, _ => rfl
  | z :: ys, u :: us, .cons r t, f => by
    rw [List.all_cons, Bool.and_eq_true] at f
    rw [List.countP_cons, List.countP_cons, countU t f.2, eqU_of r f.1]
theorem mt_countF {X : Cx} : MtR X "list.count" (rCntF X.K) := by
  intro pins s σ H x xs v us Q I rx rxs h
  obtain ⟨p, ys, y, rfl, rfl, hs, fy, fys, q⟩ := h
  cases rx
  obtain ⟨u, rfl, ry⟩ := rxs.one
  obtain ⟨its, rv, ⟨⟨cls, dd, data, sl⟩, n, ho, hc, hdn, hd⟩, hlen⟩ := I.list hs
  simp only at hc hd
  subst hc hd
  refine call_meets PySem.F.slot_list_count ⟨_, ho, rfl⟩ PySem.F.entry_list_count (PySem.F.args_list_count_2 _ _)
    (SeqAt.list_countAt p its.toArray n dd sl u (eqU y)) ⟨ho, fun u' hu' => mem_eqAt ry fy rv fys u' (by simpa using hu'), ?_⟩
  have ec : its.toArray.toList.countP (eqU y) = ys.countP (fun z => eqV z y) := countU rv fys
  refine ⟨.int (ys.countP (fun z => eqV z y) : Nat), H, I.tok _, ⟨s.toks, ?_⟩, q⟩
  show Value.int ((its.toArray.toList.countP (eqU y) : Nat) : Int) s.toks = Value.int ((ys.countP (fun z => eqV z y) : Nat) : Int) s.toks
  rw [ec]
inductive Lm where
  | count | index
def Lm.nm : Lm → Str
  | .count => "count" | .index => "index"
def Lm.id : Lm → String
  | .count => "list.count" | .index => "list.index"
def eqF (d e : D) : Bool := match conV d, conV e with
  | some v, some w => eqV v w
  | _, _ => false
def lmD : Lm → D → List D → Option D
  | .count, .lst ds, [y] => if (conV y).isSome && ds.all fun d => (conV d).isSome then some (.int (ds.countP (fun z => eqF z y) : Nat)) else none
  | .index, .lst ds, [y] => if (conV y).isSome && ds.all fun d => (conV d).isSome then (ds.findIdx? fun z => eqF z y).map fun (j : Nat) => .int (j : Nat) else none
  | _, _, _ => none
def lmM (nm : Lm) (a : Opd) (f : Mo (List D)) : Mo D := fun m => (a.pre m).bind fun x m1 => match a.get x m1 with
  | some (.lst _) => (f m1).bind fun ds m2 => match a.get x m2 with
    | some d => match lmD nm d ds with
      | some e => .ok e m2
      | none => .no
    | none => .no
  | _ => .no
section
variable {Z : Stc} {Fo : Hp} {W : WX} {X : Cx} {g : Gh} {m : Mst} {σ : L2.St} {H : Hp} {G0 : Hp} {μ : Nat → Addr} {N : Nat}
theorem con_dv {d : D} {v w : V} (r : DV Z G0 μ N d v) (h : conV d = some w) : v = w := by
  cases d <;> simp only [conV, Option.some.injEq] at h <;> first | (subst h; cases r; rfl) | cases h
theorem con_flat {d : D} {w : V} (h : conV d = some w) : flatV w = true := by
  cases d <;> simp only [conV, Option.some.injEq] at h <;> first | (subst h; rfl) | cases h
theorem con_dvs : ∀ {ds : List D} {vs : List V}, DVs Z G0 μ N ds vs → (ds.all fun d => (conV d).isSome) = true → vs.all flatV = true ∧ ∀ (y : D) (w : V), conV y = some w → ds.countP (fun z => eqF z y) = vs.countP (fun z => eqV z w) ∧ (ds.findIdx? fun z => eqF z y) = vs.findIdx? fun z => eqV z w
  | _, _, .nil, _ => ⟨rfl, fun _ _ _ => ⟨rfl, rfl⟩⟩
  | d :: ds, v :: vs, .cons r t, h => by
    rw [List.all_cons, Bool.and_eq_true] at h
    obtain ⟨w0, hw⟩ := Option.isSome_iff_exists.mp h.1
    have ev := con_dv r hw
    obtain ⟨h1, h2⟩ := con_dvs t h.2
    refine ⟨by rw [List.all_cons, h1, ev, con_flat hw]; rfl, fun y w hy => ?_⟩
    obtain ⟨k1, k2⟩ := h2 y w hy
    have e : eqF d y = eqV v w := by unfold eqF; rw [hw, hy, ev]
    rw [List.countP_cons, List.countP_cons, List.findIdx?_cons, List.findIdx?_cons, k1, k2, e]
    exact ⟨rfl, rfl⟩
def rLm (K : PySem.W.Frag) : Lm → V → List V → Hp → VK → Prop
  | .count => rCntF K
  | .index => rIndex K
theorem lm_rule (hu : X.A.units + 65 < cLine) (nm : Lm) : MtR X nm.id (rLm X.K nm) := by
  cases nm with
  | count => exact mt_countF
  | index => exact mt_index
theorem rd_lm {nm : Lm} {a : Opd} {f : Mo (List D)} {Q : V → Hp → Prop} (h : tE Z Fo W (lmM nm a f) σ H Q) : tO Z Fo W a σ H fun x H1 => tyV Z.K "list" x H1 ∧ tL Z Fo W f σ H1 fun vs H2 => rLm Z.K nm x vs H2 Q := by
  obtain ⟨g, m, G, h⟩ := h
  refine opd_pass G h fun v H' d g' m' G' E p pv => ?_
  cases e : a.get d m' with
  | none => simp only [e] at p; exact p.elim
  | some x =>
    cases x with
    | lst l0 =>
      simp only [e] at p
      have q0 := pv g' m' H' _ G' .rfl' e
      obtain ⟨a0, vs0, rfl, hr, _⟩ := q0.lst G'
      refine ⟨.inl ⟨rfl, vs0, .inl hr⟩, g', m', G', (Pg.bind (R := RDs Z) p).imp fun vs H2 ⟨ds, g2, m2, G2, E2, rd, e3, p2⟩ => ?_⟩
      cases e4 : a.get d m2 with
      | none => simp only [e4] at p2; exact p2.elim
      | some x2 =>
        simp only [e4] at p2
        cases e5 : lmD nm x2 ds with
        | none => simp only [e5] at p2; exact p2.elim
        | some r =>
          simp only [e5] at p2
          have q2 := pv g2 m2 H2 x2 G2 E2 e4
          cases x2 with
          | lst l2 =>
            obtain ⟨a2, vs2, ea, hr2, dv2⟩ := q2.lst G2
            cases ea
            match ds, rd, e5 with
            | [y], .cons (v := vy) ry .nil, e5 =>
              cases nm with
              | count =>
                simp only [lmD] at e5
                split at e5
                · rename_i c
                  rw [Bool.and_eq_true] at c
                  obtain ⟨w, hw⟩ := Option.isSome_iff_exists.mp c.1
                  obtain ⟨h1, h2⟩ := con_dvs dv2 c.2
                  cases e5
                  have ew := con_dv ry hw
                  subst ew
                  refine ⟨a0, vs2, vy, rfl, rfl, .inl hr2, con_flat hw, h1, ?_⟩
                  rw [← (h2 y vy hw).1]
                  exact p2 _ H2 g2 G2 .rfl' (.int _)
                · cases e5
              | index =>
                simp only [lmD] at e5
                split at e5
                · rename_i c
                  rw [Bool.and_eq_true] at c
                  obtain ⟨w, hw⟩ := Option.isSome_iff_exists.mp c.1
                  obtain ⟨h1, h2⟩ := con_dvs dv2 c.2
                  have ew := con_dv ry hw
                  subst ew
                  cases e6 : l2.findIdx? fun z => eqF z y with
                  | none => rw [e6] at e5; cases e5
                  | some j =>
                    rw [e6] at e5
                    cases e5
                    rw [(h2 y vy hw).2] at e6
                    obtain ⟨hj, k1, k2⟩ := List.findIdx?_eq_some_iff_getElem.mp e6
                    refine ⟨a0, vs2, vy, j, vs2[j], rfl, rfl, .inl hr2, con_flat hw, h1, List.getElem?_eq_getElem hj, k1, fun i z' hi ez => ?_, p2 _ H2 g2 G2 .rfl' (.int _)⟩
                    obtain ⟨hl, rfl⟩ := List.getElem?_eq_some_iff.mp ez
                    simpa using k2 i hi
                · cases e5
            | [], _, e5 => cases nm <;> simp [lmD] at e5
            | _ :: _ :: _, _, e5 => cases nm <;> simp [lmD] at e5
          | _ => cases nm <;> simp [lmD] at e5
    | _ => simp only [e] at p; exact p.elim
theorem lm_facts (nm : Lm) : ∃ (pa : PlainAttrs "list") (sl : Slot "list" nm.nm nm.id), typeOf (.builtin nm.id) = pure (.type "method_descriptor") := by
  cases nm with
  | count => exact ⟨PySem.F.plainAttrs_list, PySem.F.slot_list_count, PySem.F.type_list_count⟩
  | index => exact ⟨PySem.F.plainAttrs_list, PySem.F.slot_list_index, PySem.F.type_list_index⟩
def lmOf (x : Str) : Option Lm := if x = ("count" : Str) then some .count else if x = ("index" : Str) then some .index else none
theorem lmOf_spec {x : Str} {o : Lm} (h : lmOf x = some o) : x = o.nm := by
  unfold lmOf at h
  split at h
  · cases h; assumption
  · split at h
    · cases h; assumption
    · cases h
theorem de_lm {ea e : Expr} {es : List Expr} {a : Opd} {f : Mo (List D)} {apos cpos : Pos} (hK : X.K = Z.K) (hu : X.A.units + 65 < cLine) (o : Lm) {nm : Str} (hnm : nm = o.nm) (ha : PE X ea (tO Z Fo W a)) (hf : PA X (e :: es) (tL Z Fo W f)) (hb : attributeBase ea nm X.env (eval ea X.env) = eval ea X.env)
    (hfew : ((backTo cpos (starEach (e :: es) X.env)).all (fun x => !x.1) && (backToKw cpos (keywordEach [] X.env)).all (fun x => x.1.isSome) && decide ((e :: es).length + ([] : List Keyword).length + (if ([] : List Keyword).isEmpty then 0 else 1) < 30)) = true)
    (hl : (apos.endLine == cpos.line) = true) (hs : starEach (e :: es) X.env = (false, eval e X.env) :: starEach es X.env) (hp : (backTo cpos (starEach es X.env)).any (·.1) = false) :
    PE X (.Call (.Attribute ea nm apos) (e :: es) [] cpos) (tE Z Fo W (lmM o a f)) := by
  subst hnm
  obtain ⟨pa, sl, ty⟩ := lm_facts o
  exact (pe_bm pa sl ty (lm_rule hu o) ha hf hb hfew hl hs hp).imp fun σ H Q h => hK ▸ rd_lm h
end
end LB

namespace LB
open PySem L2 PyProof.Rows
/-! ### sorted(t) of a tuple of whole numbers -/
def insL (a : Int) : List Int → List Int
  | [] => [a]
  | b :: r => if a ≤ b then a :: b :: r else b :: insL a r
def sortL (l : List Int) : List Int := l.foldr insL []
theorem insL_perm {a : Int} : ∀ {l : List Int}, (insL a l).Perm (a :: l)
  | [] => .refl _
  | b :: r => by
    unfold insL
    split
    · exact .refl _
    · exact (List.Perm.cons b insL_perm).trans (.swap a b r)
theorem sortL_perm : ∀ {l : List Int}, (sortL l).Perm l
  | [] => .refl _
  | a :: r => insL_perm.trans (.cons a sortL_perm)
theorem insL_pw {a : Int} : ∀ {l : List Int}, l.Pairwise (· ≤ ·) → (insL a l).Pairwise (· ≤ ·)
  | [], _ => by simp [insL]
  | b :: r, h => by
    have h' := List.pairwise_cons.mp h
    unfold insL
    split
    · rename_i c
      exact List.pairwise_cons.mpr ⟨fun x hx => by
        rcases List.mem_cons.mp hx with rfl | q
        · exact c
        · exact Int.le_trans c (h'.1 x q), h⟩
    · rename_i c
      exact List.pairwise_cons.mpr ⟨fun x hx => by
        rcases List.mem_cons.mp (insL_perm.mem_iff.mp hx) with rfl | q
        · omega
        · exact h'.1 x q, insL_pw h'.2⟩
theorem sortL_pw : ∀ {l : List Int}, (sortL l).Pairwise (· ≤ ·)
  | [] => .nil
  | a :: r => insL_pw sortL_pw
theorem perm_pw : ∀ {a b : List Int}, a.Perm b → a.Pairwise (· ≤ ·) → b.Pairwise (· ≤ ·) → a = b
  | [], b, h, _, _ => (List.nil_perm.mp h).symm
  | x :: r, [], h, _, _ => absurd h.length_eq (by simp)
  | x :: r, y :: s, h, ha, hb => by
    have ha' := List.pairwise_cons.mp ha
    have hb' := List.pairwise_cons.mp hb
    have e : x = y := by
      rcases List.mem_cons.mp (h.mem_iff.mp List.mem_cons_self) with q | q
      · exact q
      · rcases List.mem_cons.mp (h.mem_iff.mpr List.mem_cons_self) with q2 | q2
        · exact q2.symm
        · have := hb'.1 x q; have := ha'.1 y q2; omega
    subst e
    rw [perm_pw (List.perm_cons x |>.mp h) ha'.2 hb'.2]
section
variable {prog : Program} {w : World} {A : Around} {E : Value → Shared → Prop} {s : Shared}
theorem collect_tupL {l : Addr} {vs : List Value} {Q : List Value → Shared → Prop} (hl : s.heap.IsTuple l vs.toArray) (h : Q vs { s with heap := (s.heap.push (seqObj "list" #[] 0)).update s.heap.objs.size (Obj.mapSeq (· ++ vs.toArray)) }) (hsz : vs.length ≤ sizeLine) : wpAny (model prog w) A (collect (.ref l)) Q E s := by
  obtain ⟨o, ho, hc, n, hd⟩ := id hl
  unfold collect
  refine wpAny_bind (wpAny_runValue (codeAny_builtin entry_proto_collect' ?_)); show wpAny _ _ (do again (.builtin "list.__iadd__" ⟨[← newList [], .ref l], []⟩)) _ _ s
  refine wpAny_bind (wpAny_newList (wpAny_pure ⟨Code.quiet_builtin _ (by decide +kernel), codeAny_builtin entry_list_iadd' ?_⟩)); show wpAny _ _ (Builtin.List.listExtendWith (.ref s.heap.objs.size) (.ref l) (.ref s.heap.objs.size)) _ _ { s with heap := s.heap.push (seqObj "list" #[] 0) }
  unfold Builtin.List.listExtendWith
  have ho' : (s.heap.push (seqObj "list" #[] 0)).get? l = some o := Heap.get?_push_of_some _ ho
  refine wpAny_bind (wpAny_typeOf (T := "tuple") ⟨o, ho', hc⟩ ?_); have ht : (Value.type "tuple" == Value.type "tuple") = true := by rfl
  rw [if_pos (by rw [ht, Bool.or_true])]; refine wpAny_bind (listItems_at ho' hd ?_)
  refine wpAny_bind (listItems_at (xs := #[]) (n := 0) (Heap.get?_push_size _ rfl) rfl ?_); rw [if_neg (by simp)]
  refine wpAny_bind (listUpdate_at (xs := #[]) (n := 0) (Heap.get?_push_size _ rfl) rfl ?_ (Nat.zero_le _) (by show (#[] ++ vs.toArray).size ≤ sizeLine + 1; simp only [Array.size_append, List.size_toArray, List.length_nil]; omega)); refine wpAny_pure ?_
  show wpAny (model prog w) A (do let o ← load s.heap.objs.size; match o.data with | .seq xs _ => pure xs.toList | _ => unsupported "internal:collect") Q E { s with heap := (s.heap.push (seqObj "list" #[] 0)).update s.heap.objs.size (Obj.mapSeq (· ++ vs.toArray)) }
  refine wpAny_bind (wpAny_load (get?_update_seq (Heap.get?_push_size _ rfl) _) ?_); show wpAny _ _ (pure ((#[] : Array Value) ++ vs.toArray).toList) Q E _
  rw [show ((#[] : Array Value) ++ vs.toArray).toList = vs by simp]; exact wpAny_pure h
theorem sorted_tupL {l : Addr} {vs : List Value} {ns : List Int} {Q : Value → Shared → Prop} (hl : s.heap.IsTuple l vs.toArray) (hI : IntsAre vs ns) (h64 : vs.length < 64) (h : ∀ (out : Array Value) (ns' : List Int), IntsAre out.toList ns' → ns'.Perm ns → ns'.Pairwise (· ≤ ·) → Q (.ref (s.heap.objs.size + 1)) { s with heap := sortedAll s.heap vs out }) : wpAny (model prog w) A (call (.builtin "sorted") [.ref l]) Q E s := by
  refine Calls.call_function_entry kind_sorted plain_sorted entry_sorted (args_sorted1 _) ?_; unfold Builtin.«sorted»
  refine wpAny_bind (m := checkCount "sorted" 1 1 _) (wpAny_pure ?_); refine wpAny_bind (collect_tupL hl ?_ (by rw [sizeLine_eq]; omega))
  refine wpAny_bind (wpAny_newList ?_)
  have hsz : ((s.heap.push (seqObj "list" #[] 0)).update s.heap.objs.size (Obj.mapSeq (· ++ vs.toArray))).objs.size = s.heap.objs.size + 1 := by rw [Heap.size_update, size_push']
  have hoL : (((s.heap.push (seqObj "list" #[] 0)).update s.heap.objs.size (Obj.mapSeq (· ++ vs.toArray))).push (seqObj "list" vs.toArray 0)).get? (s.heap.objs.size + 1) = some (seqObj "list" vs.toArray 0) := by rw [← hsz]; exact Heap.get?_push_size _ rfl
  show wpAny _ _ _ _ _ { s with heap := ((s.heap.push (seqObj "list" #[] 0)).update s.heap.objs.size (Obj.mapSeq (· ++ vs.toArray))).push (seqObj "list" vs.toArray 0) }; rw [hsz]
  refine wpAny_bind (wpAny_holding (wpAny_call_entry slot_list_sort ⟨_, hoL, rfl⟩ entry_list_sort (list_sort_tree hoL hI h64 fun out ns' a1 a2 a3 => ⟨_, rfl, ?_⟩) (args_list_sort _))); exact wpAny_pure ⟨_, rfl, h out ns' a1 a2 a3⟩
end
section
variable {Z : Stc} {Fo : Hp} {W : WX} {g g' : Gh} {m m' : Mst} {σ : L2.St} {H : Hp} {N N' : Nat} {X : Cx}
def rSortT (K : PySem.W.Frag) : List V → Hp → VK → Prop := fun vs H Q => ∃ (a : Addr) (ns : List Int), vs = [V.ref a] ∧ SqT K H a (ns.map V.int) ∧ ns.length < 64 ∧ ∀ (ns' : List Int) (p : Addr), ns'.Perm ns → ns'.Pairwise (· ≤ ·) → H p = none → Q (.ref p) (upd H p (.lst (ns'.map V.int)))
theorem cr_sortT : CallR X (.builtin "sorted") (rSortT X.K) := by
  intro pins s σ H vs us Q I r h
  obtain ⟨a, ns, rfl, hs, h64, q⟩ := h
  obtain ⟨its, rv, hl, _⟩ := I.tuple hs
  rw [Vals.ref1 r]
  have hi := rv.ints
  refine sorted_tupL hl hi (by rw [hi.length]; exact h64) fun out ns' h1 h2 h3 => ?_
  obtain ⟨ep, he'⟩ := PyProof.Rows.sortedAll_at s.heap its out
  have hlen : (ns'.map V.int).length ≤ sizeLine := by rw [List.length_map, h2.length_eq]; exact small64 h64
  exact ⟨.ref _, upd H (s.heap.objs.size + 1) (.lst (ns'.map V.int)), I.laid (t' := s.toks) (fun _ _ => PyProof.Rows.sortedAll_old) (Nat.le_succ _) ⟨hlen, out.toList, ep, vals_of_ints h1, he'⟩, rfl, q ns' _ h2 h3 (I.hok.fresh (Nat.le_succ _))⟩
def srtN (d : D) : Mo Ob := match d with
  | .tup ds => match intsD ds with
    | some ns => if ns.length < 64 then .ret (.lst ((sortL ns).map .int)) else .no
    | none => .no
  | _ => .no
theorem de_srt {ea : Expr} {a : Opd} {p1 q1 : Pos} (hK : X.K = Z.K) (g1 : Gl X "sorted") (m1 : X.mg "sorted" = none) (he : starEach [ea] X.env = [(false, eval ea X.env)])
    (ha : PE X ea (tO Z Fo W a)) : PE X (.Call (.Name "sorted" p1) [ea] [] q1) (tN Z Fo W (opd1 a srtN)) := by
  refine (pe_callB cr_sortT g1 m1 (by decide +kernel) (pa_cons ha pa_nil he) (he := he)).imp fun σ H Q ⟨g, m, G, h⟩ => rd_opd1 G h fun g' m' H' x d G' _ px p => ?_
  cases d with
  | tup ds =>
    cases e : intsD ds with
    | none => simp only [srtN, e] at p; exact p.elim
    | some ns =>
      by_cases c : ns.length < 64
      · simp only [srtN, e, if_pos c] at p
        obtain ⟨b, vs, rfl, hb, _, dv⟩ := px.tup G'
        have ev := dv.ofInts e
        subst ev
        refine ⟨b, ns, rfl, hK ▸ hb, c, fun ms r pm pw hr => ?_⟩
        have em : ms = sortL ns := perm_pw (pm.trans sortL_perm.symm) pw sortL_pw
        subst em
        have G3 := G'.fresh (o := .lst ((sortL ns).map V.int)) hr
        obtain ⟨f1, f2, f3⟩ := G'.free hr
        exact p _ _ _ G3 .rfl' ⟨r, _, rfl, upd_same, ⟨_, rfl, (by
          have : ∀ l : List Int, DVs Z g'.G g'.μ m'.S.length (l.map .int) (l.map V.int) := fun l => by
            induction l with
            | nil => exact .nil
            | cons a l ih => exact .cons (.int a) ih
          exact this _)⟩, f1, f2, f3⟩
      · simp only [srtN, e, if_neg c] at p; exact p.elim
  | _ => exact p.elim
end
end LB

namespace LB
open PySem L2 PyProof.Rows

/-! ### the plain form of a body -/
mutual
inductive Ex where
  | k (d : D) | v (i : Nat) | mc (d : D)
  | bop (o : BOp) (a b : Ex) | neg (a : Ex) | inv (a : Ex) | cmp (o : COp) (a b : Ex) | ch (o p : COp) (a b c : Ex) | nt (a : Ex)
  | and (a b : Ex) | or (a b : Ex) | ite (c : Bx) (a b : Ex)
  | tup (es : Exs) | nw (n : Nx)
  | call (x : Str) (es : Exs) | b1 (b : Bi1) (a : Ex) | isi (c : String) (a : Ex) | mn2 (mx : Bool) (a b : Ex)
  | ix (a b : Ex) | sl (a : Ex) (lo hi : Px) | om (o : Om) (a : Ex) (es : Exs) | dget (a k z : Ex)
  | al (n : Nx) | fld (a : Ex) (f : Str) | mk (c key : Str) (es : Exs) | mth (cs : List (Str × Str)) (m : Str) (a : Ex) (es : Exs) | cv (fs : List Str) (f : Ex) (es : Exs) | bits (a : Ex) | rv (a : Ex) | isx (t : List (Str × Bool)) (a : Ex) | xf (cs : List Str) (f : Str) (a : Ex) | lm (o : Lm) (a : Ex) (es : Exs)
inductive Px where
  | no | some (a : Ex)
inductive Exs where
  | nil | cons (e : Ex) (r : Exs)
inductive Prs where
  | nil | cons (k v : Ex) (r : Prs)
inductive Nx where
  | lst (es : Exs) | bop (o : BOp) (a b : Ex) | list (a : Ex) | sl (a : Ex) (lo hi : Px) | rev (a : Ex) | dct (ps : Prs) | lzip (es : Exs) | dct0 (t : Bool) | sset (a : Ex) | srt (a : Ex)
  | lc (s : Sr) (t : Tg) (vs : List Nat) (c : Bx) (e : Ex)
inductive Sr where
  | seq (e : Ex) | rng (es : Exs) | en (es : Exs) | zz (es : Exs)
inductive Bx where
  | yes | cmp (o : COp) (a b : Ex) | ch (o p : COp) (a b c : Ex) | and (a b : Bx) | or (a b : Bx) | nt (a : Bx) | tru (a : Ex)
end
mutual
inductive Sx where
  | pass | brk | cnt | ret (e : Ex) | retN | expr (e : Ex) | asg (t : Tg) (e : Ex) | own (i : Nat) (n : Nx) | setb (i : Nat) (o : BOp) (a b : Ex) | sets (i : Nat) (a : Ex) (lo hi : Px) | ifs (c : Bx) (a b : Sxs) | for (ks : List Nat) (s : Sr) (t : Tg) (b : Sxs)
  | setr (i : Nat) (a : Ex) | aug (i : Nat) (e : Ex) | seti (a k v : Ex) | setf (a : Ex) (f : Str) (v : Ex) | augf (a : Ex) (f : Str) (v : Ex) | par (is : List Nat) (es : Exs) | unp (i : Nat) (fs : List Str) (e : Ex) | whl (ks : List Nat) (c : Bx) (b : Sxs) | stuck | rai (c : Str) | tryx (b : Sxs) (t : List (Str × Bool)) (i j : Nat) | raf (c f : Str) (e : Ex) | tryo (b : Sxs) (t : List (Str × Bool)) (r : Option Nat) (d : D)
inductive Sxs where
  | nil | cons (s : Sx) (r : Sxs)
end
def Ex.opd (e : Ex) (f : Mo D) : Opd := match e with
  | .v i => (some i, .no)
  | _ => (none, f)
def frz (f : Mo Ob) : Mo D := f.bind fun o => .ret o.d
/-- a value, or a new object -/
def bopMN (o : BOp) (d e : D) : Mo D := fun m => match bopN o d e m with
  | .ok b m => .ok b.d m
  | _ => bopM o d e m
def slMN (d : D) (l u : Option Int) : Mo D := match slN d l u with
  | some b => .ret b.d
  | none => slDM d l u
/-- to a name: a new object is its own -/
def putS (i : Nat) : D ⊕ Ob → Mo Fl
  | .inl d => setT (.nm i) d
  | .inr b => fun m => if i < m.ρ.length then .ok .nx { m with ρ := m.ρ.set i (.own b) } else .no
def bopS (o : BOp) (d e : D) : Mo (D ⊕ Ob) := fun m => match bopN o d e m with
  | .ok b m => .ok (.inr b) m
  | _ => match bopM o d e m with
    | .ok d m => .ok (.inl d) m
    | .exc x m => .exc x m
    | .no => .no
def slS (d : D) (l u : Option Int) : Mo (D ⊕ Ob) := match slN d l u with
  | some b => .ret (.inr b)
  | none => match slD d l u with
    | some d => .ret (.inl d)
    | none => .no
def negM (d : D) : Mo D := match d with
  | .int i => .ret (.int (-i))
  | _ => .no
def invM (d : D) : Mo D := match d with
  | .int i => .ret (.int (Builtin.bitNot i))
  | _ => .no
def revSM : D → Mo (D ⊕ Ob) := revS
/-- a op b op c: b is reckoned once -/
def chM (o p : COp) (a b c : Opd) : Mo Bool := fun m => (a.pre m).bind fun x m => (b.pre m).bind fun y m => match a.get x m, b.get y m with
  | some d, some e => match cmpD o d e with
    | some true => (c.pre m).bind fun z m => match b.get y m, c.get z m with
      | some e, some h => (cmpM p e h) m
      | _, _ => .no
    | some false => .ok false m
    | none => .no
  | _, _ => .no
section
variable (Φ : Str → Fn)
mutual
def evE : Ex → Mo D
  | .k d => .ret d
  | .v i => evV i
  | .mc d => .ret d
  | .bop o a b => opd2 (a.opd (evE a)) (b.opd (evE b)) (bopMN o)
  | .neg a => opd1 (a.opd (evE a)) negM
  | .inv a => opd1 (a.opd (evE a)) invM
  | .cmp o a b => blM (opd2 (a.opd (evE a)) (b.opd (evE b)) (cmpM o))
  | .ch o p a b c => blM (chM o p (a.opd (evE a)) (b.opd (evE b)) (c.opd (evE c)))
  | .nt a => blM (notT (opd1 (a.opd (evE a)) truM))
  | .and a b => andM (evE a) (evE b)
  | .or a b => orM (evE a) (evE b)
  | .ite c a b => iteM (evB c) (evE a) (evE b)
  | .tup es => tupM (evX es)
  | .nw n => frz (evN n)
  | .call x es => callM (Φ x) (evX es)
  | .b1 b a => opd1 (a.opd (evE a)) (bi1M b)
  | .isi c a => opd1 (a.opd (evE a)) (bi1M (.isi c))
  | .mn2 mx a b => opd2 (a.opd (evE a)) (b.opd (evE b)) (mn2M mx)
  | .ix a b => opd2 (a.opd (evE a)) (b.opd (evE b)) ixM
  | .sl a lo hi => slM (a.opd (evE a)) (evP lo) (evP hi) slMN
  | .om o a es => omM o (a.opd (evE a)) (evX es)
  | .dget a k z => dgetM (a.opd (evE a)) (evE k) (evE z)
  | .al n => alM (evN n)
  | .fld a f => opd1 (a.opd (evE a)) (fldM f)
  | .mk c key es => mkM (Φ key) c (evX es)
  | .mth cs m a es => mthM Φ cs m (a.opd (evE a)) (evX es)
  | .cv fs f es => cvM Φ fs (evE f) (evX es)
  | .bits a => opd1 (a.opd (evE a)) bitsM
  | .rv a => opd1 (a.opd (evE a)) revMN
  | .isx t a => opd1 (a.opd (evE a)) (isxM t)
  | .xf cs f a => opd1 (a.opd (evE a)) (xfM cs f)
  | .lm o a es => lmM o (a.opd (evE a)) (evX es)
def evP : Px → Prt
  | .no => none
  | .some a => some (evE a)
def evX : Exs → Mo (List D)
  | .nil => .ret []
  | .cons e r => consM (evE e) (evX r)
def evPs : Prs → List (Mo D × Mo D)
  | .nil => []
  | .cons k v r => (evE k, evE v) :: evPs r
def evN : Nx → Mo Ob
  | .lst es => lstM (evX es)
  | .bop o a b => opd2 (a.opd (evE a)) (b.opd (evE b)) (bopN o)
  | .list a => opd1 (a.opd (evE a)) listN
  | .sl a lo hi => slM (a.opd (evE a)) (evP lo) (evP hi) slNM
  | .rev a => opd1 (a.opd (evE a)) revM
  | .dct ps => dctM (evPs ps)
  | .lzip es => lzM (evX es)
  | .dct0 t => dct0M t
  | .sset a => opd1 (a.opd (evE a)) ssetN
  | .srt a => opd1 (a.opd (evE a)) srtN
  | .lc s t vs c e => lcM (evS s) t vs (evB c) (evE e)
def evS : Sr → Mo (List D)
  | .seq e => seqM (evE e)
  | .rng es => rngM (evX es)
  | .en es => enM (evX es)
  | .zz es => zzM (evX es)
def evB : Bx → Mo Bool
  | .yes => .ret true
  | .cmp o a b => opd2 (a.opd (evE a)) (b.opd (evE b)) (cmpM o)
  | .ch o p a b c => chM o p (a.opd (evE a)) (b.opd (evE b)) (c.opd (evE c))
  | .and a b => andT (evB a) (evB b)
  | .or a b => orT (evB a) (evB b)
  | .nt a => notT (evB a)
  | .tru a => opd1 (a.opd (evE a)) truM
end
mutual
def evT : Sx → Mo Fl
  | .pass => skipM
  | .brk => .ret .bk
  | .cnt => .ret .ct
  | .ret e => retM (evE Φ e)
  | .retN => .ret (.rt .non)
  | .expr e => dropM (evE Φ e)
  | .asg t e => asgM t (evE Φ e)
  | .own i n => ownM i (evN Φ n)
  | .setb i o a b => (opd2 (a.opd (evE Φ a)) (b.opd (evE Φ b)) (bopS o)).bind (putS i)
  | .sets i a lo hi => (slM (a.opd (evE Φ a)) (evP Φ lo) (evP Φ hi) slS).bind (putS i)
  | .ifs c a b => iffM (evB Φ c) (evTs a) (evTs b)
  | .for ks s t b => forM ks (evS Φ s) t (evTs b)
  | .setr i a => (opd1 (a.opd (evE Φ a)) revS).bind (putS i)
  | .aug i e => augM i (evE Φ e)
  | .seti a k v => setiM (a.opd (evE Φ a)) (evE Φ k) (evE Φ v)
  | .setf a f v => dropM ((evE Φ v).bind fun e => opd1 (a.opd (evE Φ a)) (setfM f e))
  | .augf a f v => dropM (augfE f (a.opd (evE Φ a)) (evE Φ v))
  | .par is es => parM is (evX Φ es)
  | .unp i fs e => unpM i fs (evE Φ e)
  | .whl ks c b => whlM ks (evB Φ c) (evTs b)
  | .stuck => Mo.no
  | .rai c => raiM c
  | .tryx b t i j => trM t i j (evTs b)
  | .raf c f e => rafM c f (evE Φ e)
  | .tryo b t r d => troM t r d (evTs b)
def evTs : Sxs → Mo Fl
  | .nil => skipM
  | .cons s r => seqS (evT s) (evTs r)
end
end

/-! ### a written body, brought into the plain form -/
/-- what stands fast for a block: its slots, its scope, what is written to cells -/
structure Blk where
  N : List Str
  sc : Scope
  fnC : Str → Bool
  keep : List Nat
  al : List (Nat × Nat)
  tk : List (Nat × Nat)
/-- the module: names it does not bind, its defs with their arities, its constants -/
structure Prg where
  free : List Str
  fns : List (Str × Nat)
  cs : List (Str × D)
  vals : List Str
  cls : List (Str × Str × Nat)
  mts : List (Str × Str × Str × Nat)
  exs : List Str := []
  subs : List (Str × Str × Bool) := []
  exi : List (Str × Str) := []
/-- which classes of exceptions are of this one -/
def Prg.tbl (P : Prg) (t : Str) : List (Str × Bool) := P.subs.filterMap fun (c, c', b) => if c' = t then some (c, b) else none
/-- which classes have a method -/
def Prg.having (P : Prg) (m : Str) (n : Nat) : List (Str × Str) := P.mts.filterMap fun (c, m', key, n') => if m' = m ∧ n' = n then some (c, key) else none
def Prg.exf (P : Prg) (f : Str) : List Str := P.exi.filterMap fun (c, f') => if f' = f then some c else none
def inPos (l : List (Nat × Nat)) (p : Pos) : Bool := l.any fun (a, b) => a == p.line && b == p.col
mutual
def Sx.asd : Sx → List Nat
  | .asg t _ => t.slots
  | .own i _ => [i]
  | .setb i _ _ _ => [i]
  | .sets i _ _ _ => [i]
  | .setr i _ => [i]
  | .aug i _ => [i]
  | .par is _ => is
  | .ifs _ a b => a.asd ++ b.asd
  | .for _ _ t b => t.slots ++ b.asd
  | .whl _ _ b => b.asd
  | .tryx b _ i j => i :: j :: b.asd
  | .tryo b _ (some j) _ => j :: b.asd
  | .tryo b _ none _ => b.asd
  | _ => []
def Sxs.asd : Sxs → List Nat
  | .nil => []
  | .cons s r => s.asd ++ r.asd
end
/-- the slots that a loop lets go of -/
def Blk.kill (Y : Blk) (l : List Nat) : List Nat := (l.eraseDups).filter fun i => !(Y.keep.contains i)
def bopOf : Operator → Option BOp
  | .Add => some .add | .Sub => some .sub | .Mult => some .mul | .Mod => some .mod | .FloorDiv => some .fdiv | .Pow => some .pow | .BitAnd => some .band | .BitOr => some .bor | .BitXor => some .bxor | .LShift => some .shl | .RShift => some .shr
  | _ => none
def copOf : CmpOp → COp
  | .Eq => .eq | .NotEq => .ne | .Lt => .lt | .LtE => .le | .Gt => .gt | .GtE => .ge | .In => .isin | .NotIn => .notin | .Is => .is_ | .IsNot => .isnot
theorem bopOf_spec {o : Operator} {b : BOp} (h : bopOf o = some b) : b.op = o := by cases o <;> cases h <;> rfl
theorem copOf_spec (o : CmpOp) : (copOf o).op = o := by cases o <;> rfl
def constD : Const → Option D
  | .none => some .non | .bool b => some (.bl b) | .int i => some (.int i) | .str x => some (.str x)
  | _ => none
def plainA : Expr → Bool
  | .Starred .. => false
  | _ => true
def notSet : Expr → Bool
  | .Set .. => false
  | _ => true
def notSlice : Expr → Bool
  | .Slice .. => false
  | _ => true
def notComp : Expr → Bool
  | .ListComp .. => false
  | .SetComp .. => false
  | .DictComp .. => false
  | _ => true
def notTuple : Expr → Bool
  | .Tuple .. => false
  | _ => true
/-- no call of a name without arguments -/
def notBare : Expr → Bool
  | .Call (.Name _ _) [] [] _ => false
  | _ => true
def idx (N : List Str) (x : Str) : Option Nat := N.findIdx? fun y => decide (y = x)
def visB (sc : Scope) (x : Str) : Bool := match sc.names.lookup x with
  | some .local => true
  | some .cell => true
  | some .free => true
  | _ => false
def locB (sc : Scope) (x : Str) : Bool := match sc.names.lookup x with
  | some .local => true
  | some .cell => true
  | _ => false
def glB (sc : Scope) (x : Str) : Bool := match sc.names.lookup x with
  | some .globalImplicit => true
  | _ => false
def lclB (sc : Scope) (x : Str) : Bool := match sc.names.lookup x with
  | some .local => true
  | _ => false
def okNm (x : Str) : Bool := !(x == ("__debug__" : Str)) && !(x == ("__classdict__" : Str)) && decide (x ≠ "__name__")
/-- the name of a built-in that the module does not bind -/
def bltB (P0 : Prg) (Y : Blk) (x : Str) : Bool := glB Y.sc x && decide (x ∈ P0.free)
def guard' (b : Bool) : Option Unit := if b = true then some () else none
def bi1All : List Bi1 := [.len, .tuple, .int, .abs, .all, .any, .sum, .min, .max, .repr]
def bi1Of (x : Str) : Option Bi1 := bi1All.find? fun b => decide (b.nm = x)
def omAll : List Om := [.append, .extend, .pop, .reverse, .clear, .update]
def omOf (x : Str) : Option Om := omAll.find? fun b => decide (b.nm = x)
def ownOf (N : List Str) (scope : Scope) : List (Str × Nat) := scope.names.filterMap fun (x, k) => match k with
  | .local => (idx N x).map fun i => (x, i)
  | .cell => (idx N x).map fun i => (x, i)
  | _ => none
def Blk.inner (Y : Blk) (scope : Scope) : Blk := ⟨Y.N, relS scope Y.sc, fun x => scope.names.lookup x == some .cell, Y.keep, Y.al, Y.tk⟩
/-- names alone -/
def namesIn : List Expr → Option (List Str)
  | [] => some []
  | .Name x _ :: r => (namesIn r).map (x :: ·)
  | _ => none
/-- f(a, b) -/
def zipArgs : Expr → Option (Str × Expr × Expr)
  | .Call (.Name z _) [a, b] [] _ => some (z, a, b)
  | _ => none
mutual
def cT (Y : Blk) : Nat → Expr → Option Tg
  | 0, _ => none
  | n + 1, .Name x _ => match idx Y.N x with
    | some i => if locB Y.sc x && (Y.fnC x || (match Y.sc.names.lookup x with | some .local => true | _ => false)) then some (.nm i) else none
    | none => none
  | n + 1, .Tuple es _ _ => (cTs Y n es).map .tp
  | _, _ => none
def cTs (Y : Blk) : Nat → List Expr → Option Tgs
  | 0, _ => none
  | n + 1, [] => some .nil
  | n + 1, e :: es => match cT Y n e, cTs Y n es with
    | some t, some ts => some (.cons t ts)
    | _, _ => none
end
def locIx (Y : Blk) (x : Str) : Option Nat := if Y.sc.names.lookup x = some .local then idx Y.N x else none
def parOf (Y : Blk) : List Str → Option (List Nat)
  | [x, y] => (locIx Y x).bind fun i => (locIx Y y).bind fun j => if i ≠ j then some [i, j] else none
  | [x, y, z] => (locIx Y x).bind fun i => (locIx Y y).bind fun j => (locIx Y z).bind fun l => if i ≠ j ∧ i ≠ l ∧ j ≠ l then some [i, j, l] else none
  | _ => none
section
variable (P0 : Prg)
mutual
def cE (Y : Blk) : Nat → Expr → Option Ex
  | 0, _ => none
  | n + 1, e => match (if inPos Y.al e.pos = true then cN Y n e else none) with
    | some x => some (.al x)
    | none => match cV Y n e with
      | some a => some a
      | none => (cN Y n e).map .nw
def cV (Y : Blk) : Nat → Expr → Option Ex
  | 0, _ => none
  | n + 1, e => match e with
    | .Constant c _ _ => (constD c).map .k
    | .Name x _ => cName Y n x
    | .BinOp a o b _ => (bopOf o).bind fun o => (cE Y n a).bind fun a => (cE Y n b).map fun b => .bop o a b
    | .UnaryOp .USub a _ => (cE Y n a).map .neg
    | .UnaryOp .Invert a _ => (cE Y n a).map .inv
    | .UnaryOp .Not a _ => (cE Y n a).map .nt
    | .IfExp c a b _ => (cB Y n c).bind fun c => (cE Y n a).bind fun a => (cE Y n b).map fun b => .ite c a b
    | .BoolOp o vs p => cO Y n o vs
    | .Compare a [o] [b] _ => if notSet b then (cE Y n a).bind fun a => (cE Y n b).map fun b => .cmp (copOf o) a b else none
    | .Compare a [o, p] [b, c] _ => if notSet b && notSet c then (cE Y n a).bind fun a => (cE Y n b).bind fun b => (cE Y n c).map fun c => .ch (copOf o) (copOf p) a b c else none
    | .Attribute a f _ => if notBare a && decide (f ∈ fldNames) then (cE Y n a).map fun a => .fld a f else if notBare a && !(P0.exf f).isEmpty then (cE Y n a).map fun a => .xf (P0.exf f) f a else none
    | .Tuple es _ _ => (cX Y n es).map .tup
    | .Call f es [] p => match f with
      | .Name x _ => cCall Y n x es
      | .Attribute o m ap => cMeth Y n o m ap es p
      | .Subscript (.List gs _) _ _ => match namesIn gs with
        | some fs => if !es.isEmpty && fs.all (fun x => decide (P0.fns.lookup x = some es.length)) then (cE Y n f).bind fun f => (cX Y n es).map fun r => .cv fs f r else none
        | none => none
      | _ => none
    | .Subscript a s _ => match s with
      | .Slice lo hi none _ => (cE Y n a).bind fun a => (cPx Y n lo).bind fun lo => (cPx Y n hi).map fun hi => .sl a lo hi
      | .Slice none none (some (.UnaryOp .USub (.Constant (.int 1) _ _) _)) _ => (cE Y n a).map fun a => .rv a
      | s => if notSlice s then (cE Y n a).bind fun a => (cE Y n s).map fun b => .ix a b else none
    | _ => none
def cName (Y : Blk) : Nat → Str → Option Ex
  | n, x => if okNm x then match idx Y.N x with
    | some i => if visB Y.sc x then some (.v i) else none
    | none => if glB Y.sc x then match P0.cs.lookup x with
        | some d => some (.mc d)
        | none => if decide (x ∈ P0.vals) && (P0.fns.lookup x).isSome then some (.mc (.glo x)) else none
      else none
  else none
def cO (Y : Blk) : Nat → BoolOp → List Expr → Option Ex
  | 0, _, _ => none
  | n + 1, o, [a] => cE Y n a
  | n + 1, o, a :: b :: r => (cE Y n a).bind fun a => (cO Y n o (b :: r)).map fun b => match o with
    | .And => .and a b
    | .Or => .or a b
  | n + 1, _, [] => none
def cX (Y : Blk) : Nat → List Expr → Option Exs
  | 0, _ => none
  | n + 1, [] => some .nil
  | n + 1, e :: es => if plainA e then (cE Y n e).bind fun a => (cX Y n es).map fun r => .cons a r else none
def cPx (Y : Blk) : Nat → Option Expr → Option Px
  | 0, _ => none
  | n + 1, none => some .no
  | n + 1, some e => (cE Y n e).map .some
def cCall (Y : Blk) : Nat → Str → List Expr → Option Ex
  | 0, _, _ => none
  | n + 1, x, es => if okNm x && glB Y.sc x then match P0.fns.lookup x with
      | some k => (cX Y n es).bind fun a => if decide (es.length = k) then some (.call x a) else none
      | none => match P0.cls.lookup x with
        | some (key, k) => (cX Y n es).bind fun a => if decide (es.length = k) then some (.mk x key a) else none
        | none => if bltB P0 Y x then match es with
        | [e] => match bi1Of x with
          | some b => if plainA e then (cE Y n e).map fun a => .b1 b a else none
          | none => none
        | [e, f] => if decide (x = "isinstance") then match f with
            | .Name t _ => if bltB P0 Y t && plainA e && (clsOf t).isSome then (clsOf t).bind fun c => (cE Y n e).map fun a => .isi c a
              else if glB Y.sc t && okNm t && plainA e && !(P0.tbl t).isEmpty then (cE Y n e).map fun a => .isx (P0.tbl t) a else none
            | _ => none
          else if decide (x = "min") || decide (x = "max") then if plainA e && plainA f then (cE Y n e).bind fun a => (cE Y n f).map fun b => .mn2 (decide (x = "max")) a b else none else none
        | _ => none
      else none
    else none
def cMeth (Y : Blk) : Nat → Expr → Str → Pos → List Expr → Pos → Option Ex
  | 0, _, _, _, _, _ => none
  | n + 1, o, m, ap, es, p => if notBare o && (ap.endLine == p.line) then match omOf m with
      | some om => if decide (es.length < 20) then (cE Y n o).bind fun a => (cX Y n es).map fun r => .om om a r else none
      | none => if (P0.having m es.length).isEmpty then match es with
        | [] => if decide (m = "bit_length") then (cE Y n o).map .bits else none
        | [k] => (lmOf m).bind fun om => (cE Y n o).bind fun a => (cX Y n [k]).map fun r => .lm om a r
        | [k, z] => if decide (m = "get") && plainA k && plainA z then (cE Y n o).bind fun a => (cE Y n k).bind fun k => (cE Y n z).map fun z => .dget a k z else none
        | _ => none
        else (cE Y n o).bind fun a => (cX Y n es).bind fun r => if decide (es.length < 20) then some (.mth (P0.having m es.length) m a r) else none
    else none
def cPr (Y : Blk) : Nat → List (Option Expr) → List Expr → Option Prs
  | 0, _, _ => none
  | n + 1, [], [] => some .nil
  | n + 1, some k :: ks, v :: vs => (cE Y n k).bind fun a => (cE Y n v).bind fun b => (cPr Y n ks vs).map fun r => .cons a b r
  | n + 1, _, _ => none
def cN (Y : Blk) : Nat → Expr → Option Nx
  | 0, _ => none
  | n + 1, e => match e with
    | .List es _ => (cX Y n es).map .lst
    | .BinOp a o b _ => (bopOf o).bind fun o => (cE Y n a).bind fun a => (cE Y n b).map fun b => .bop o a b
    | .Dict [] [] p => some (.dct0 (inPos Y.tk p))
    | .Dict ks vs _ => if decide (ks.length ≤ 15) && !ks.isEmpty && decide (ks.length = vs.length) && ks.all (·.isSome) then (cPr Y n ks vs).map .dct else none
    | .Call (.Name f _) [e] [] _ => if decide (f = "list") && bltB P0 Y f then match zipArgs e with
        | some q => if decide (q.1 = "zip") && bltB P0 Y q.1 then (cX Y n [q.2.1, q.2.2]).map .lzip else none
        | none => if plainA e then (cE Y n e).map .list else none
      else if decide (f = "sorted") && bltB P0 Y f then match e with
        | .Call (.Name g _) [e] [] _ => if decide (g = "set") && bltB P0 Y g && plainA e then (cE Y n e).map .sset else none
        | e => if plainA e then (cE Y n e).map .srt else none
      else none
    | .Subscript a s _ => match s with
      | .Slice lo hi none _ => (cE Y n a).bind fun a => (cPx Y n lo).bind fun lo => (cPx Y n hi).map fun hi => .sl a lo hi
      | .Slice none none (some (.UnaryOp .USub (.Constant (.int 1) _ _) _)) _ => (cE Y n a).map fun a => .rev a
      | _ => none
    | .ListComp e gs scope _ => match gs with
      | [⟨tg, it, ifs, 0⟩] => if notSet it && blkC Y.N Y.sc scope (ownOf Y.N scope) then (cS Y n tg it).bind fun s => (cT (Y.inner scope) n tg).bind fun t => (cE (Y.inner scope) n e).bind fun a => match ifs with
          | [] => some (.lc s t ((ownOf Y.N scope).map (·.2)) .yes a)
          | [c] => (cB (Y.inner scope) n c).map fun c => .lc s t ((ownOf Y.N scope).map (·.2)) c a
          | _ => none
        else none
      | _ => none
    | _ => none
/-- what is gone through; tg: where the items go -/
def cS (Y : Blk) : Nat → Expr → Expr → Option Sr
  | 0, _, _ => none
  | n + 1, tg, e => match e with
    | .Call (.Name x _) es [] _ => if bltB P0 Y x && decide (x = "range") then (if decide (1 ≤ es.length) && decide (es.length ≤ 3) then (cX Y n es).map .rng else none)
      else if bltB P0 Y x && decide (x = "enumerate") && !notTuple tg then (match es with | [_] => (cX Y n es).map .en | _ => none)
      else if bltB P0 Y x && decide (x = "zip") && !notTuple tg then (match es with | [_, _] => (cX Y n es).map .zz | _ => none)
      else match cCall Y n x es with
        | some e => some (.seq e)
        | none => none
    | e => (cE Y n e).map .seq
def cB (Y : Blk) : Nat → Expr → Option Bx
  | 0, _ => none
  | n + 1, e => match e with
    | .Compare a [o] [b] _ => if notSet b then (cE Y n a).bind fun a => (cE Y n b).map fun b => .cmp (copOf o) a b else none
    | .Compare a [o, p] [b, c] _ => if notSet b && notSet c then (cE Y n a).bind fun a => (cE Y n b).bind fun b => (cE Y n c).map fun c => .ch (copOf o) (copOf p) a b c else none
    | .BoolOp o vs _ => cQ Y n o vs
    | .UnaryOp .Not a _ => (cB Y n a).map .nt
    | e => if plainT e then (cE Y n e).map .tru else none
def cQ (Y : Blk) : Nat → BoolOp → List Expr → Option Bx
  | 0, _, _ => none
  | n + 1, o, [a] => cB Y n a
  | n + 1, o, a :: b :: r => (cB Y n a).bind fun a => (cQ Y n o (b :: r)).map fun b => match o with
    | .And => .and a b
    | .Or => .or a b
  | n + 1, _, [] => none
end
mutual
def cSt (Y : Blk) : Nat → Stmt → Option Sx
  | 0, _ => none
  | n + 1, e => match e with
    | .Pass _ => some .pass
    | .Break _ => some .brk
    | .Continue _ => some .cnt
    | .Return (some e) _ => (cE P0 Y n e).map .ret
    | .Return none _ => some .retN
    | .Expr e _ => match e with
      | .Constant (.str _) _ _ => some .pass
      | e => if notComp e then (cE P0 Y n e).map .expr else none
    | .Assign [tg] e p => cAs Y n tg e p
    | .If c a b _ => (cB P0 Y n c).bind fun c => (cSs Y n a).bind fun a => (cSs Y n b).map fun b => .ifs c a b
    | .For tg it b [] _ => if notSet it then (cS P0 Y n tg it).bind fun s => (cT Y n tg).bind fun t => (cSs Y n b).map fun b => .for (Y.kill (t.slots ++ b.asd)) s t b else none
    | .While c b [] _ => (cB P0 Y n c).bind fun c => (cSs Y n b).map fun b => .whl (Y.kill b.asd) c b
    | .Raise (some (.Call (.Name c _) [.Constant (.str _) _ _] [] _)) none _ => if decide (c ∈ P0.exs) && glB Y.sc c && okNm c then some (.rai c) else some .stuck
    | .Raise (some (.Call (.Name c _) [e] [] _)) none _ => match P0.exi.lookup c with
      | some f => if glB Y.sc c && okNm c && plainA e then (cE P0 Y n e).map fun e => .raf c f e else some .stuck
      | none => some .stuck
    | .Raise _ _ _ => some .stuck
    | .Try b [.ExceptHandler (some (.Name x _)) (some nm) [.Assign [.Name m _] (.Name nm' _) _] _] [] [] _ => if decide (nm' = nm) && okNm x && okNm nm && glB Y.sc x && !(P0.tbl x).isEmpty && lclB Y.sc nm && lclB Y.sc m then
        (idx Y.N nm).bind fun i => (idx Y.N m).bind fun j => (cSs Y n b).map fun b => .tryx b (P0.tbl x) i j
      else none
    | .Try b [.ExceptHandler (some (.Name x _)) none [.Return (some (.Constant c _ _)) _] _] [] [] _ => if okNm x && glB Y.sc x && !(P0.tbl x).isEmpty then
        (constD c).bind fun d => if (conV d).isSome then (cSs Y n b).map fun b => .tryo b (P0.tbl x) none d else none
      else none
    | .Try b [.ExceptHandler (some (.Name x _)) none [.Assign [.Name m _] (.Constant c _ _) _] _] [] [] _ => if okNm x && glB Y.sc x && !(P0.tbl x).isEmpty && lclB Y.sc m then
        (idx Y.N m).bind fun j => (constD c).bind fun d => if (conV d).isSome then (cSs Y n b).map fun b => .tryo b (P0.tbl x) (some j) d else none
      else none
    | .AugAssign tg .Add e _ => match tg with
      | .Name _ _ => match cT Y n tg with
        | some (.nm i) => (cE P0 Y n e).map (.aug i)
        | _ => none
      | .Attribute a f _ => if decide (f ∈ fldNames) then (cE P0 Y n a).bind fun a => (cE P0 Y n e).map fun e => .augf a f e else none
      | _ => none
    | _ => none
def cSs (Y : Blk) : Nat → List Stmt → Option Sxs
  | 0, _ => none
  | n + 1, [] => some .nil
  | n + 1, s :: r => (cSt Y n s).bind fun a => (cSs Y n r).map fun b => .cons a b
/-- an assignment: a value, or a new object of the name's own -/
def cAs (Y : Blk) : Nat → Expr → Expr → Pos → Option Sx
  | 0, _, _, _ => none
  | n + 1, tg, e, p => match tg with
    | .Subscript a k _ => if noCut k then (cE P0 Y n a).bind fun a => (cE P0 Y n k).bind fun k => (cE P0 Y n e).map fun e => .seti a k e else none
    | .Attribute a f _ => if decide (f ∈ fldNames) then (cE P0 Y n a).bind fun a => (cE P0 Y n e).map fun e => .setf a f e else none
    | .Tuple ts _ _ => (match ts with
      | .Attribute (.Name x xp) _ _ :: _ => if notTuple e then (match atsOf x ts, cName P0 Y n x with
        | some fs, some (.v i) => if fs.all (fun f => decide (f ∈ fldNames)) then (cE P0 Y n e).map fun e => .unp i fs e else none
        | _, _ => none)
        else none
      | _ => match e with
        | .Tuple vs _ _ => (match swB Y.sc ts vs with
          | some (some xs) => if decide (namesIn ts = some xs) && decide (vs.length = xs.length) then (parOf Y xs).bind fun is => (cX P0 Y n vs).map fun r => .par is r else none
          | some none => (cT Y n tg).bind fun t => (cE P0 Y n e).map fun a => .asg t a
          | none => none)
        | e => (cT Y n tg).bind fun t => (cE P0 Y n e).map fun a => .asg t a)
    | .Name y py => (match cT Y n (.Name y py) with
    | none => none
    | some t => if inPos Y.al e.pos then (if notComp e then (cE P0 Y n e).map fun a => .asg t a
        else match t, e with
        | .nm i, .ListComp _ _ scope cp => (cN P0 Y n e).bind fun nx =>
          if decide (Y.sc.names.lookup y = some .local) && (py.line == cp.line) && !(scope.names.any fun (n, k) => n == y && (k == .local || k == .cell)) then some (.asg (.nm i) (.al nx)) else none
        | _, _ => none)
      else if notComp e then match t, cN P0 Y n e with
        | .nm i, some nx => match e with
          | .BinOp .. => (match nx with
            | .bop o a b => some (.setb i o a b)
            | _ => none)
          | .Subscript .. => (match nx with
            | .sl a lo hi => some (.sets i a lo hi)
            | .rev a => some (.setr i a)
            | nx => some (.own i nx))
          | _ => some (.own i nx)
        | t, _ => (cE P0 Y n e).map fun a => .asg t a
      else match t, e with
        | .nm i, .ListComp _ _ scope cp => (cN P0 Y n e).bind fun nx =>
          if decide (Y.sc.names.lookup y = some .local) && (py.line == cp.line) && !(scope.names.any fun (n, k) => n == y && (k == .local || k == .cell)) then some (.own i nx)
          else if !decide (Y.sc.names.lookup y = some .local) then some (.own i nx) else none
        | _, _ => none)
    | _ => none
end
end
end LB

namespace LB
open PySem L2 PyProof.Rows

/-! ### what the plain form tells holds of the written one -/
structure Sit (P0 : Prg) (Z : Stc) (Φ : Str → Fn) (k : Nat) (X : Cx) : Prop where
  free : ∀ x ∈ P0.free, X.mg x = none
  fn : ∀ x n, P0.fns.lookup x = some n → ∃ f fd ps, ps.length = n ∧ X.mg x = some (.ref f) ∧ PySem.W.keepIn X.K (.ref f) = true ∧ Binds X.K fd ps [] ∧ FnG X.prog X.w X.K X.mg X.base k f fd ps (spF Z n (Φ x))
  cs : ∀ x d, P0.cs.lookup x = some d → ∃ v u, X.mg x = some u ∧ RelV v u ∧ ∀ G μ N, DV Z G μ N d v
  cl : ∀ x key n, P0.cls.lookup x = some (key, n) → MkOk X k Z (Φ key) x n
  mt : ∀ c m key n, (c, m, key, n) ∈ P0.mts → MtOk X Z k (Φ key) c m n
  ex : ∀ c ∈ P0.exs, ∃ C, X.mg c = some (.ref C) ∧ ExMk X.K C
  sub : ∀ c c' b, (c, c', b) ∈ P0.subs → SubAt X.K X.mg c c' b
  exi : ∀ c f, (c, f) ∈ P0.exi → ∃ C, X.mg c = some (.ref C) ∧ ExIn X.prog X.w X.K X.mg X.base C f ∧ XfC X.K C
  low : 1 ≤ k
structure Fit (P0 : Prg) (Z : Stc) (Φ : Str → Fn) (k : Nat) (X : Cx) (Y : Blk) (W : WX) : Prop where
  st : Sit P0 Z Φ k X
  K : X.K = Z.K
  w : X.w = Z.w
  mg : X.mg = Z.mg
  calm : X.calm = true
  rm : RoomG (k + 1) X.A
  nd : X.N.Nodup
  N : X.N = Y.N
  sc : X.env.scope = Y.sc
  kd : Y.sc.kind = .function
  fc : ∀ x, Y.fnC x = true → X.fn x = true
  pa : ∀ σ, PassesAt (L2.CX X.prog X.w) X σ (WE W σ)
section
variable {P0 : Prg} {Z : Stc} {Φ : Str → Fn} {k : Nat} {X : Cx} {Y : Blk} {W : WX} {Fo : Hp}
theorem lookup_mem' {α : Type} {x : Str} {d : α} : ∀ {l : List (Str × α)}, l.lookup x = some d → (x, d) ∈ l
  | [], h => by cases h
  | (y, e) :: r, h => by
    rw [List.lookup_cons] at h
    cases q : x == y with
    | true =>
      rw [q] at h
      rw [eq_of_beq q, ← Option.some.inj h]
      exact List.mem_cons_self
    | false =>
      rw [q] at h
      exact List.mem_cons_of_mem _ (lookup_mem' h)
theorem ClsAt.uniq {mg : Str → Option Value} {c : Str} {u v : Value} (h : ClsAt mg c u) (k : ClsAt mg c v) : u = v := by
  rcases h with ⟨C, rfl, h⟩ | ⟨_, rfl, h⟩ <;> rcases k with ⟨D, rfl, k⟩ | ⟨_, rfl, k⟩ <;> rw [h] at k <;> cases k <;> rfl
theorem tbl_mem {P0 : Prg} {t cn : Str} {b : Bool} (h : (P0.tbl t).lookup cn = some b) : (cn, t, b) ∈ P0.subs := by
  have m := lookup_mem' h
  unfold Prg.tbl at m
  obtain ⟨⟨c, c', b'⟩, m1, m2⟩ := List.mem_filterMap.mp m
  dsimp only at m2
  split at m2
  · rename_i e
    cases m2
    exact e ▸ m1
  · cases m2
theorem Sit.tbl_at (S : Sit P0 Z Φ k X) {t : Str} (ne : (P0.tbl t) ≠ []) : ∃ cv, ClsAt X.mg t cv ∧ ∀ cn b, (P0.tbl t).lookup cn = some b → ∃ C, X.mg cn = some (.ref C) ∧ ExcC X.K C ∧ PySem.W.kitOne X.K (.ref C) cv = some b ∧ PySem.W.exmOne X.K (.ref C) cv = some b := by
  obtain ⟨⟨c0, b0⟩, m0⟩ := List.exists_mem_of_ne_nil _ ne
  unfold Prg.tbl at m0
  obtain ⟨⟨c, c', b'⟩, m1, m2⟩ := List.mem_filterMap.mp m0
  dsimp only at m2
  split at m2
  · rename_i e
    cases m2
    subst e
    obtain ⟨C, cv, _, _, hcv, _⟩ := (S.sub _ _ _ m1).at_
    refine ⟨cv, hcv, fun cn b e => ?_⟩
    obtain ⟨D, cv2, h1, h2, h3, h4, h5⟩ := (S.sub _ _ _ (tbl_mem e)).at_
    rw [← hcv.uniq h3] at h4 h5
    exact ⟨D, h1, h2, h4, h5⟩
  · cases m2
theorem okNm_debug {x : Str} (h : okNm x = true) : (x == ("__debug__" : Str)) = false := by
  unfold okNm at h
  simp only [Bool.and_eq_true, Bool.not_eq_true'] at h
  exact h.1.1
theorem okNm_cd {x : Str} (h : okNm x = true) : (x == ("__classdict__" : Str)) = false := by
  unfold okNm at h
  simp only [Bool.and_eq_true, Bool.not_eq_true'] at h
  exact h.1.2
theorem Fit.xf_at (F : Fit P0 Z Φ k X Y W) {f : Str} : ∀ c ∈ P0.exf f, ∀ C, Z.mg c = some (.ref C) → XfC X.K C ∧ PySem.W.findIn X.K (.ref C) f = some none := fun c hc C hm => by
  unfold Prg.exf at hc
  obtain ⟨⟨c', f'⟩, m1, m2⟩ := List.mem_filterMap.mp hc
  dsimp only at m2
  split at m2
  · rename_i e
    cases m2
    subst e
    obtain ⟨D, q1, q2, q3⟩ := F.st.exi _ _ m1
    rw [F.mg, hm] at q1
    cases q1
    exact ⟨q3, q2.nf⟩
  · cases m2
theorem Fit.rmk (F : Fit P0 Z Φ k X Y W) : RoomG k X.A := F.rm.mono (Nat.le_succ _)
theorem Fit.units (F : Fit P0 Z Φ k X Y W) : X.A.units + 66 < cLine := by have := F.rm.room.un; omega
theorem Fit.gl (F : Fit P0 Z Φ k X Y W) {x : Str} (h : glB Y.sc x = true) : Gl X x := by
  show X.env.scope.names.lookup x = some .globalImplicit
  rw [F.sc]
  unfold glB at h
  split at h
  · assumption
  · cases h
theorem Fit.blt (F : Fit P0 Z Φ k X Y W) {x : Str} (h : bltB P0 Y x = true) : Gl X x ∧ X.mg x = none := by
  unfold bltB at h
  rw [Bool.and_eq_true, decide_eq_true_eq] at h
  exact ⟨F.gl h.1, F.st.free x h.2⟩
theorem idx_spec {N : List Str} {x : Str} {i : Nat} (h : idx N x = some i) : N[i]? = some x := by
  unfold idx at h
  obtain ⟨lt, p, _⟩ := List.findIdx?_eq_some_iff_getElem.mp h
  rw [List.getElem?_eq_getElem lt]
  exact congrArg some (of_decide_eq_true p)
theorem okNm_spec {x : Str} (h : okNm x = true) : (x == ("__debug__" : Str)) = false ∧ (x == ("__classdict__" : Str)) = false ∧ x ≠ "__name__" := by
  unfold okNm at h
  simp only [Bool.and_eq_true, Bool.not_eq_true', decide_eq_true_eq] at h
  exact ⟨h.1.1, h.1.2, h.2⟩
/-- what is one of two things that are told -/
theorem pe_any {e : Expr} {f r c : Mo D} (h1 : PE X e (tE Z Fo W f)) (h2 : PE X e (tE Z Fo W r)) (h : ∀ m, c m = .no ∨ c m = f m ∨ c m = r m) : PE X e (tE Z Fo W c) := ⟨fun pins s σ H Q I ⟨g, m, G, q⟩ => by
  rcases h m with z | z | z <;> rw [z] at q
  · exact q.elim
  · exact h1.run pins s σ H Q I ⟨g, m, G, q⟩
  · exact h2.run pins s σ H Q I ⟨g, m, G, q⟩⟩
theorem ps_any {st : Stmt} {f r c : Mo Fl} (h1 : PS X st (tS Z Fo W f)) (h2 : PS X st (tS Z Fo W r)) (h : ∀ m, c m = .no ∨ c m = f m ∨ c m = r m) : PS X st (tS Z Fo W c) := ⟨fun pins s σ H Q I ⟨g, m, G, q⟩ => by
  rcases h m with z | z | z <;> rw [z] at q
  · exact q.elim
  · exact h1.run pins s σ H Q I ⟨g, m, G, q⟩
  · exact h2.run pins s σ H Q I ⟨g, m, G, q⟩⟩
theorem bop_or (o : BOp) (a b : Opd) (m : Mst) : opd2 a b (bopMN o) m = .no ∨ opd2 a b (bopMN o) m = opd2 a b (bopM o) m ∨ opd2 a b (bopMN o) m = frz (opd2 a b (bopN o)) m := by
  unfold frz opd2
  simp only [Mo.bind_at]
  cases a.pre m with
  | no => exact .inl rfl
  | exc x m => exact .inr (.inl rfl)
  | ok x m =>
    simp only [Res.bind_ok]
    cases b.pre m with
    | no => exact .inl rfl
    | exc x m => exact .inr (.inl rfl)
    | ok y m =>
      simp only [Res.bind_ok]
      cases a.get x m with
      | none => exact .inl rfl
      | some d =>
        cases b.get y m with
        | none => exact .inl rfl
        | some e =>
          simp only [bopMN]
          cases bopN o d e m with
          | no => exact .inr (.inl rfl)
          | exc x m => exact .inr (.inl rfl)
          | ok b m => exact .inr (.inr rfl)
theorem bopS_or (i : Nat) (o : BOp) (a b : Opd) (m : Mst) : ((opd2 a b (bopS o)).bind (putS i)) m = .no ∨ ((opd2 a b (bopS o)).bind (putS i)) m = ownM i (opd2 a b (bopN o)) m ∨ ((opd2 a b (bopS o)).bind (putS i)) m = asgM (.nm i) (opd2 a b (bopM o)) m := by
  unfold ownM asgM opd2
  simp only [Mo.bind_at]
  cases a.pre m with
  | no => exact .inl rfl
  | exc x m => exact .inr (.inl rfl)
  | ok x m =>
    simp only [Res.bind_ok]
    cases b.pre m with
    | no => exact .inl rfl
    | exc x m => exact .inr (.inl rfl)
    | ok y m =>
      simp only [Res.bind_ok]
      cases a.get x m with
      | none => exact .inl rfl
      | some d =>
        cases b.get y m with
        | none => exact .inl rfl
        | some e =>
          simp only [bopS]
          cases bopN o d e m with
          | ok b m => exact .inr (.inl rfl)
          | no =>
            cases bopM o d e m with
            | no => exact .inl rfl
            | exc x m => exact .inr (.inr rfl)
            | ok d m => exact .inr (.inr rfl)
          | exc x m2 =>
            cases bopM o d e m with
            | no => exact .inl rfl
            | exc x m => exact .inr (.inr rfl)
            | ok d m => exact .inr (.inr rfl)
theorem sl_or (a : Opd) (lo hi : Prt) (m : Mst) : slM a lo hi slMN m = .no ∨ slM a lo hi slMN m = slM a lo hi slDM m ∨ slM a lo hi slMN m = frz (slM a lo hi slNM) m := by
  unfold frz slM
  simp only [Mo.bind_at]
  cases a.pre m with
  | no => exact .inl rfl
  | exc x m => exact .inr (.inl rfl)
  | ok x m =>
    simp only [Res.bind_ok, Mo.bind_at]
    cases prtM lo m with
    | no => exact .inl rfl
    | exc x m => exact .inr (.inl rfl)
    | ok l m =>
      simp only [Res.bind_ok, Mo.bind_at]
      cases prtM hi m with
      | no => exact .inl rfl
      | exc x m => exact .inr (.inl rfl)
      | ok u m =>
        simp only [Res.bind_ok]
        cases a.get x m with
        | none => exact .inl rfl
        | some d =>
          simp only [slMN, slNM]
          cases slN d l u with
          | none => exact .inr (.inl rfl)
          | some b => exact .inr (.inr rfl)
theorem slS_or (i : Nat) (a : Opd) (lo hi : Prt) (m : Mst) : ((slM a lo hi slS).bind (putS i)) m = .no ∨ ((slM a lo hi slS).bind (putS i)) m = ownM i (slM a lo hi slNM) m ∨ ((slM a lo hi slS).bind (putS i)) m = asgM (.nm i) (slM a lo hi slDM) m := by
  unfold ownM asgM slM
  simp only [Mo.bind_at]
  cases a.pre m with
  | no => exact .inl rfl
  | exc x m => exact .inr (.inl rfl)
  | ok x m =>
    simp only [Res.bind_ok, Mo.bind_at]
    cases prtM lo m with
    | no => exact .inl rfl
    | exc x m => exact .inr (.inl rfl)
    | ok l m =>
      simp only [Res.bind_ok, Mo.bind_at]
      cases prtM hi m with
      | no => exact .inl rfl
      | exc x m => exact .inr (.inl rfl)
      | ok u m =>
        simp only [Res.bind_ok]
        cases a.get x m with
        | none => exact .inl rfl
        | some d =>
          simp only [slS, slNM, slDM]
          cases slN d l u with
          | some b => exact .inr (.inl rfl)
          | none =>
            cases slD d l u with
            | none => exact .inl rfl
            | some z => exact .inr (.inr rfl)
theorem pe_frz {e : Expr} {f : Mo Ob} (h : PE X e (tN Z Fo W f)) : PE X e (tE Z Fo W (frz f)) := h.imp fun _ _ _ q => rd_new q
theorem pe_val {e : Expr} {a : Ex} (h : PE X e (tO Z Fo W (a.opd (evE Φ a)))) : PE X e (tE Z Fo W (evE Φ a)) := by
  cases a with
  | v i => exact h.imp fun _ _ _ q => rd_var q
  | _ => exact h
theorem star_cons {e : Expr} {es : List Expr} {env : Env} (h : plainA e = true) : starEach (e :: es) env = (false, eval e env) :: starEach es env := by
  cases e <;> first | rfl | cases h
theorem star_any {es : List Expr} {env : Env} {pos : Pos} (h : ∀ e ∈ es, plainA e = true) : (backTo pos (starEach es env)).any (·.1) = false := by
  induction es with
  | nil => rfl
  | cons e es ih =>
    rw [star_cons (h e List.mem_cons_self)]
    show (false || (backTo pos (starEach es env)).any (·.1)) = false
    rw [ih fun e he => h e (List.mem_cons_of_mem _ he)]
    rfl
theorem star_few {es : List Expr} {env : Env} {pos : Pos} (h : ∀ e ∈ es, plainA e = true) (l : es.length < 20) : ((backTo pos (starEach es env)).all (fun x => !x.1) && (backToKw pos (keywordEach [] env)).all (fun x => x.1.isSome) && decide (es.length + ([] : List Keyword).length + (if ([] : List Keyword).isEmpty then 0 else 1) < 30)) = true := by
  have h1 : (backTo pos (starEach es env)).all (fun x => !x.1) = true := by
    clear l
    induction es with
    | nil => rfl
    | cons e es ih =>
      rw [star_cons (h e List.mem_cons_self)]
      show (!false && (backTo pos (starEach es env)).all (fun x => !x.1)) = true
      rw [ih fun e he => h e (List.mem_cons_of_mem _ he)]
      rfl
  have h2 : (backToKw pos (keywordEach [] env)).all (fun x => x.1.isSome) = true := rfl
  rw [h1, h2, Bool.true_and, Bool.true_and]
  refine decide_eq_true ?_
  show es.length + 0 + 0 < 30
  omega
theorem base_plain {o : Expr} {m : Str} {env : Env} (h : notBare o = true) : attributeBase o m env (eval o env) = eval o env := by
  cases o with
  | Call f es kws p =>
    cases f with
    | Name x p2 =>
      cases es with
      | nil => cases kws with
        | nil => cases h
        | cons _ _ => rfl
      | cons _ _ => rfl
    | _ => rfl
  | _ => rfl
theorem fold_plain {e : Expr} {env : Env} (h : notSet e = true) : ∀ x, foldedSetIterable e env x = pure x := by
  cases e <;> first | exact fun _ => rfl | cases h
theorem constD_ok {c : Const} {d : D} {j : Nat} {p : Pos} (h : constD c = some d) : PE X (.Constant c j p) (tE Z Fo W (.ret d)) := by
  cases c with
  | none => cases h; exact pe_non.imp fun _ _ _ q => rd_k (fun _ _ _ => .non) q
  | bool b => cases h; exact pe_bl.imp fun _ _ _ q => rd_k (fun _ _ _ => .bl b) q
  | int i => cases h; exact pe_int.imp fun _ _ _ q => rd_k (fun _ _ _ => .int i) q
  | str x => cases h; exact pe_str.imp fun _ _ _ q => rd_k (fun _ _ _ => .str x) q
  | _ => cases h
theorem de_neg {ea : Expr} {a : Opd} {pos : Pos} (ha : PE X ea (tO Z Fo W a)) : PE X (.UnaryOp .USub ea pos) (tE Z Fo W (opd1 a negM)) := (pe_un un_neg ha).imp fun σ H Q ⟨g, m, G, h⟩ => rd_opd1 G h fun g' m' H' x d G' _ px p => by
  cases d with
  | int i => exact ⟨i, px.int, p _ _ _ G' .rfl' (.int _)⟩
  | _ => exact p.elim
theorem de_inv {ea : Expr} {a : Opd} {pos : Pos} (ha : PE X ea (tO Z Fo W a)) : PE X (.UnaryOp .Invert ea pos) (tE Z Fo W (opd1 a invM)) := (pe_un un_inv ha).imp fun σ H Q ⟨g, m, G, h⟩ => rd_opd1 G h fun g' m' H' x d G' _ px p => by
  cases d with
  | int i => exact ⟨i, px.int, p _ _ _ G' .rfl' (.int _)⟩
  | _ => exact p.elim
theorem pe_k {x : Str} {d : D} {v : V} {u : Value} {p : Pos} (hg : Gl X x) (hm : X.mg x = some u) (r : RelV v u) (dv : ∀ G μ N, DV Z G μ N d v) (hd : (x == ("__debug__" : Str)) = false) : PE X (.Name x p) (tE Z Fo W (.ret d)) :=
  ⟨fun pins s σ H Q I ⟨g, m, G, h⟩ => ld_glob I hg hm ⟨v, H, I, r, h v H g G .rfl' (dv _ _ _)⟩ hd⟩
theorem rv_or (a : Opd) (m : Mst) : opd1 a revMN m = .no ∨ opd1 a revMN m = opd1 a revD m ∨ opd1 a revMN m = frz (opd1 a revM) m := by
  unfold frz opd1
  simp only [Mo.bind_at]
  cases a.pre m with
  | no => exact .inl rfl
  | exc x m => exact .inr (.inl rfl)
  | ok x m =>
    simp only [Res.bind_ok]
    cases a.get x m with
    | none => exact .inl rfl
    | some d =>
      cases d with
      | lst ds => exact .inr (.inr rfl)
      | _ => exact .inr (.inl rfl)
theorem revS_or (i : Nat) (a : Opd) (m : Mst) : ((opd1 a revS).bind (putS i)) m = .no ∨ ((opd1 a revS).bind (putS i)) m = ownM i (opd1 a revM) m ∨ ((opd1 a revS).bind (putS i)) m = asgM (.nm i) (opd1 a revD) m := by
  unfold ownM asgM opd1
  simp only [Mo.bind_at]
  cases a.pre m with
  | no => exact .inl rfl
  | exc x m => exact .inr (.inl rfl)
  | ok x m =>
    simp only [Res.bind_ok]
    cases a.get x m with
    | none => exact .inl rfl
    | some d =>
      cases d with
      | lst ds => exact .inr (.inl rfl)
      | tup ds => exact .inr (.inr rfl)
      | _ => exact .inl rfl
theorem ds_asgal {st : Stmt} {i : Nat} {f : Mo Ob} (h : PS X st (tAsg (tN Z Fo W f) (gName i))) : PS X st (tS Z Fo W (asgM (.nm i) (alM f))) :=
  ps_imp h fun E σ H ⟨g, m, G, k⟩ => rd_al ⟨g, m, G, (PoS.ahead (R := RD Z) k).imp fun v H' ⟨d, g', m', G', _, r, _, q⟩ => q _ H' g' (G'.setv r) .rfl'⟩
theorem sws_tgt {tg e : Expr} {l : Nat} {env : Env} (h : ∀ x p, tg ≠ .Name x p) : swapsWithSole [tg] e l env = pure false := by
  show swapsWith e (some tg) l env = pure false
  unfold swapsWith
  cases e <;> first
    | rfl
    | (cases tg <;> first | rfl | exact absurd rfl (h _ _))
end
section
variable {Z : Stc} {X : Cx} {W : WX} {Fo : Hp}
theorem last_no (o p : COp) {b c : Expr} (h : notSet c = true) : lastMarks [o.op, p.op] [b, c] = false := by
  show behindInMarks p.op c = false
  exact nob p fun es k q z => by rw [z] at h; cases h
theorem ch_rd {σ : L2.St} {H : Hp} {P : V → Hp → Prop} {a b c : Opd} (o p : COp) (h : tT Z Fo W (chM o p a b c) σ H fun k H => P (.bl k) H) :
    tChain (fun x y H Q => ∃ g m σ d e k, Good Z Fo g m σ H ∧ PV Z g m.S.length H d x ∧ PV Z g m.S.length H e y ∧ cmpD o d e = some k ∧ Q (.bl k) H) (fun x y H Q => ∃ g m σ d e k, Good Z Fo g m σ H ∧ PV Z g m.S.length H d x ∧ PV Z g m.S.length H e y ∧ cmpD p d e = some k ∧ Q (.bl k) H) (tO Z Fo W a) (tO Z Fo W b) (tO Z Fo W c) σ H P := by
  obtain ⟨g, m, G, h⟩ := h
  refine opd_pass G h fun v H1 x g1 m1 G1 E1 q1 pv1 => opd_pass G1 q1 fun v2 H2 y g2 m2 G2 E2 q2 pv2 => ?_
  cases ea : a.get x m2 with
  | none => simp only [ea] at q2; exact q2.elim
  | some d =>
    cases eb : b.get y m2 with
    | none => simp only [ea, eb] at q2; exact q2.elim
    | some e =>
      simp only [ea, eb] at q2
      cases ec : cmpD o d e with
      | none => simp only [ec] at q2; exact q2.elim
      | some k =>
        refine ⟨g2, m2, σ, d, e, k, G2, pv1 g2 m2 H2 d G2 E2 ea, pv2 g2 m2 H2 e G2 .rfl' eb, ec, k, rfl, ?_⟩
        cases k with
        | false =>
          simp only [ec] at q2
          rw [if_neg (by decide)]
          exact q2 _ _ _ G2 .rfl' rfl
        | true =>
          simp only [ec] at q2
          rw [if_pos rfl]
          refine opd_pass G2 q2 fun v3 H3 z g3 m3 G3 E3 q3 pv3 => ?_
          cases eb2 : b.get y m3 with
          | none => simp only [eb2] at q3; exact q3.elim
          | some e2 =>
            cases ecc : c.get z m3 with
            | none => simp only [eb2, ecc] at q3; exact q3.elim
            | some h3 =>
              simp only [eb2, ecc] at q3
              cases ek : cmpD p e2 h3 with
              | none => simp only [cmpM, ek] at q3; exact q3.elim
              | some k =>
                simp only [cmpM, ek] at q3
                exact ⟨g3, m3, σ, e2, h3, k, G3, pv2 g3 m3 H3 e2 G3 E3 eb2, pv3 g3 m3 H3 h3 G3 .rfl' ecc, ek, q3 _ _ _ G3 .rfl' rfl⟩
variable {ea eb ec : Expr} {a b c : Opd} {pos : Pos}
theorem dt_ch (hK : X.K = Z.K) (hw : X.w = Z.w) (hu : X.A.units + 65 < cLine) (o p : COp) (ha : PE X ea (tO Z Fo W a)) (hb : PE X eb (tO Z Fo W b)) (hc : PE X ec (tO Z Fo W c)) (hm : notSet ec = true) : PT X (.Compare ea [o.op, p.op] [eb, ec] pos) (tT Z Fo W (chM o p a b c)) :=
  (pt_chain (cmp_rule (Fo := Fo) hK hw hu o) (cmp_rule (Fo := Fo) hK hw hu p) ha hb hc (last_no o p hm)).imp fun σ H Q ⟨g, m, G, h⟩ => ch_rd o p ⟨g, m, G, h.imp fun k H q => ⟨k, rfl, q⟩⟩
theorem de_ch (hK : X.K = Z.K) (hw : X.w = Z.w) (hu : X.A.units + 65 < cLine) (o p : COp) (ha : PE X ea (tO Z Fo W a)) (hb : PE X eb (tO Z Fo W b)) (hc : PE X ec (tO Z Fo W c)) (hm : notSet ec = true) : PE X (.Compare ea [o.op, p.op] [eb, ec] pos) (tE Z Fo W (blM (chM o p a b c))) :=
  (pe_chain (cmp_rule (Fo := Fo) hK hw hu o) (cmp_rule (Fo := Fo) hK hw hu p) ha hb hc (last_no o p hm)).imp fun σ H Q h => ch_rd o p (rd_bl h)
end
end LB

namespace LB
open PySem L2 PyProof.Rows

section
variable (P0 : Prg) (Z : Stc) (Φ : Str → Fn) (k : Nat)
/-- what holds of every block that fits -/
abbrev All (p : Cx → Blk → WX → Hp → Prop) (Y : Blk) : Prop := ∀ (X : Cx) (W : WX) (Fo : Hp), Fit P0 Z Φ k X Y W → p X Y W Fo
structure Snd (n : Nat) : Prop where
  e : ∀ Y e a, cE P0 Y n e = some a → All P0 Z Φ k (fun X _ W Fo => PE X e (tO Z Fo W (a.opd (evE Φ a)))) Y
  v : ∀ Y e a, cV P0 Y n e = some a → All P0 Z Φ k (fun X _ W Fo => PE X e (tO Z Fo W (a.opd (evE Φ a)))) Y
  o : ∀ Y o vs a, cO P0 Y n o vs = some a → All P0 Z Φ k (fun X _ W Fo => ∀ p, PE X (.BoolOp o vs p) (tO Z Fo W (a.opd (evE Φ a)))) Y
  x : ∀ Y es r, cX P0 Y n es = some r → All P0 Z Φ k (fun X _ W Fo => PA X es (tL Z Fo W (evX Φ r))) Y ∧ (∀ e ∈ es, plainA e = true) ∧ ∀ m ds m', evX Φ r m = .ok ds m' → ds.length = es.length
  px : ∀ Y e a, cPx P0 Y n e = some a → All P0 Z Φ k (fun X _ W Fo => PO X e (tP Z Fo W (evP Φ a))) Y
  call : ∀ Y x es a, cCall P0 Y n x es = some a → All P0 Z Φ k (fun X _ W Fo => ∀ p pos, PE X (.Call (.Name x p) es [] pos) (tO Z Fo W (a.opd (evE Φ a)))) Y
  meth : ∀ Y o m ap es p a, cMeth P0 Y n o m ap es p = some a → All P0 Z Φ k (fun X _ W Fo => PE X (.Call (.Attribute o m ap) es [] p) (tO Z Fo W (a.opd (evE Φ a)))) Y
  pr : ∀ Y ks vs r, cPr P0 Y n ks vs = some r → All P0 Z Φ k (fun X _ W _ => ∀ pos, PPs X pos ks vs ((evPs Φ r).map fun p => (tEx Z W p.1, tEx Z W p.2))) Y
  nw : ∀ Y e a, cN P0 Y n e = some a → All P0 Z Φ k (fun X _ W Fo => PE X e (tN Z Fo W (evN Φ a))) Y
  s : ∀ Y tg e a, cS P0 Y n tg e = some a → All P0 Z Φ k (fun X _ W Fo => PI X tg e (tI Z Fo W (evS Φ a))) Y
  b : ∀ Y e a, cB P0 Y n e = some a → All P0 Z Φ k (fun X _ W Fo => PT X e (tT Z Fo W (evB Φ a))) Y
  q : ∀ Y o vs a, cQ P0 Y n o vs = some a → All P0 Z Φ k (fun X _ W Fo => ∀ p, PW X (.BoolOp o vs p) (tT Z Fo W (evB Φ a))) Y
  t : ∀ Y e t, cT Y n e = some t → All P0 Z Φ k (fun X _ W Fo => PG X e (gT Z Fo t)) Y ∧ plainA e = true
  ts : ∀ Y es ts, cTs Y n es = some ts → All P0 Z Φ k (fun X _ W Fo => PGs X es (gTs Z Fo ts)) Y ∧ (∀ e ∈ es, plainA e = true) ∧ ts.len = es.length
end
section
variable {P0 : Prg} {Z : Stc} {Φ : Str → Fn} {k : Nat} {n : Nat}
theorem snd_zero : Snd P0 Z Φ k 0 := by
  constructor <;> intros <;> rename_i h <;> first | cases h | (simp only [cE, cV, cO, cX, cPx, cCall, cMeth, cPr, cN, cS, cB, cQ, cT, cTs] at h; cases h)
theorem bnd {α β : Type} {o : Option α} {f : α → Option β} {b : β} (h : o.bind f = some b) : ∃ a, o = some a ∧ f a = some b := Option.bind_eq_some_iff.mp h
theorem mpd {α β : Type} {o : Option α} {f : α → β} {b : β} (h : o.map f = some b) : ∃ a, o = some a ∧ f a = b := Option.map_eq_some_iff.mp h
theorem ifs' {α : Type} {c : Bool} {a : Option α} {b : α} (h : (if c = true then a else none) = some b) : c = true ∧ a = some b := by
  cases c with
  | true => exact ⟨rfl, h⟩
  | false => cases h
/-! targets -/
theorem each_len {es : List Expr} {env : Env} (h : ∀ e ∈ es, plainA e = true) : (assignEach es env).length = es.length ∧ (assignEach es env).findIdx? (·.1) = none ∧ ∀ e r, es = e :: r → (assignEach es env).map (·.2) = assign e env :: (assignEach r env).map (·.2) := by
  induction es with
  | nil => exact ⟨rfl, rfl, fun _ _ z => nomatch z⟩
  | cons e es ih =>
    obtain ⟨h1, h2, _⟩ := ih fun e he => h e (List.mem_cons_of_mem _ he)
    have he := h e List.mem_cons_self
    have q : assignEach (e :: es) env = (false, assign e env) :: assignEach es env := by
      cases e <;> first | rfl | cases he
    rw [q]
    refine ⟨by rw [List.length_cons, List.length_cons, h1], ?_, fun e' r z => by cases z; rfl⟩
    rw [List.findIdx?_cons, h2]
    rfl
theorem snd_t (S : Snd P0 Z Φ k n) : ∀ Y e t, cT Y (n + 1) e = some t → All P0 Z Φ k (fun X _ W Fo => PG X e (gT Z Fo t)) Y ∧ plainA e = true := by
  intro Y e t h
  cases e with
  | Name x p =>
    simp only [cT] at h
    cases e1 : idx Y.N x with
    | none => rw [e1] at h; cases h
    | some i =>
      rw [e1] at h
      obtain ⟨c, h⟩ := ifs' h
      cases h
      rw [Bool.and_eq_true, Bool.or_eq_true] at c
      refine ⟨fun X W Fo F => dg_nm (pg_name F.nd (by rw [F.N]; exact idx_spec e1) ?_ ?_), rfl⟩
      · show X.env.scope.names.lookup x = some .local ∨ X.env.scope.names.lookup x = some .cell
        rw [F.sc]
        have q := c.1
        unfold locB at q
        split at q <;> first | exact .inl (by assumption) | exact .inr (by assumption) | cases q
      · rcases c.2 with q | q
        · exact .inl (F.fc x q)
        · refine .inr ?_
          rw [F.sc]
          split at q
          · assumption
          · cases q
  | Tuple es j p =>
    simp only [cT] at h
    obtain ⟨ts, h1, rfl⟩ := mpd h
    obtain ⟨a, b, c⟩ := S.ts Y es ts h1
    exact ⟨fun X W Fo F => dg_tp F.K F.calm (a X W Fo F) c (each_len b).1 (each_len b).2.1, rfl⟩
  | _ => simp only [cT] at h; cases h
theorem snd_ts (S : Snd P0 Z Φ k n) : ∀ Y es ts, cTs Y (n + 1) es = some ts → All P0 Z Φ k (fun X _ W Fo => PGs X es (gTs Z Fo ts)) Y ∧ (∀ e ∈ es, plainA e = true) ∧ ts.len = es.length := by
  intro Y es ts h
  cases es with
  | nil =>
    simp only [cTs] at h
    cases h
    exact ⟨fun X W Fo F => dgs_nil, (fun e he => absurd he List.not_mem_nil), rfl⟩
  | cons e es =>
    simp only [cTs] at h
    cases e1 : cT Y n e with
    | none => simp only [e1] at h; cases h
    | some t =>
      cases e2 : cTs Y n es with
      | none => simp only [e1, e2] at h; cases h
      | some r =>
        simp only [e1, e2] at h
        cases h
        obtain ⟨a1, b1⟩ := S.t Y e t e1
        obtain ⟨a2, b2, c2⟩ := S.ts Y es r e2
        have all : ∀ x ∈ e :: es, plainA x = true := fun x hx => by
          rcases List.mem_cons.mp hx with q | q
          · rw [q]; exact b1
          · exact b2 x q
        exact ⟨fun X W Fo F => dgs_cons (a1 X W Fo F) (a2 X W Fo F) ((each_len all).2.2 e es rfl), all, by rw [Tgs.len, c2, List.length_cons]⟩
/-! argument lists -/
theorem snd_x (S : Snd P0 Z Φ k n) : ∀ Y es r, cX P0 Y (n + 1) es = some r → All P0 Z Φ k (fun X _ W Fo => PA X es (tL Z Fo W (evX Φ r))) Y ∧ (∀ e ∈ es, plainA e = true) ∧ ∀ m ds m', evX Φ r m = .ok ds m' → ds.length = es.length := by
  intro Y es r h
  cases es with
  | nil =>
    simp only [cX] at h
    cases h
    exact ⟨fun X W Fo F => pa_nil.imp fun _ _ _ q => rd_nil q, (fun e he => absurd he List.not_mem_nil), fun m ds m' e => by
      cases e; rfl⟩
  | cons e es =>
    simp only [cX] at h
    obtain ⟨c, h⟩ := ifs' h
    obtain ⟨a, h1, h⟩ := bnd h
    obtain ⟨r', h2, rfl⟩ := mpd h
    obtain ⟨a2, b2, c2⟩ := S.x Y es r' h2
    refine ⟨fun X W Fo F => (pa_cons (pe_val (S.e Y e a h1 X W Fo F)) (a2 X W Fo F) (star_cons c)).imp fun _ _ _ q => rd_cons q, fun x hx => ?_, fun m ds m' eq => ?_⟩
    · rcases List.mem_cons.mp hx with q | q
      · rw [q]; exact c
      · exact b2 x q
    · simp only [evX, consM, Mo.bind_at] at eq
      cases e1 : evE Φ a m with
      | no => rw [e1] at eq; cases eq
      | exc x m1 => rw [e1] at eq; cases eq
      | ok d m1 =>
        rw [e1] at eq
        simp only [Res.bind_ok, Mo.bind_at] at eq
        cases e2 : evX Φ r' m1 with
        | no => rw [e2] at eq; cases eq
        | exc x m1 => rw [e2] at eq; cases eq
        | ok ds2 m2 =>
          rw [e2] at eq
          simp only [Res.bind_ok, Mo.ret_at, Res.ok.injEq] at eq
          rw [← eq.1, List.length_cons, List.length_cons, c2 _ _ _ e2]
theorem snd_px (S : Snd P0 Z Φ k n) : ∀ Y e a, cPx P0 Y (n + 1) e = some a → All P0 Z Φ k (fun X _ W Fo => PO X e (tP Z Fo W (evP Φ a))) Y := by
  intro Y e a h X W Fo F
  cases e with
  | none => simp only [cPx] at h; cases h; exact po_none
  | some e =>
    simp only [cPx] at h
    obtain ⟨a', h1, rfl⟩ := mpd h
    exact po_some (pe_val (S.e Y e a' h1 X W Fo F))
theorem snd_pr (S : Snd P0 Z Φ k n) : ∀ Y ks vs r, cPr P0 Y (n + 1) ks vs = some r → All P0 Z Φ k (fun X _ W _ => ∀ pos, PPs X pos ks vs ((evPs Φ r).map fun p => (tEx Z W p.1, tEx Z W p.2))) Y := by
  intro Y ks vs r h X W Fo F pos
  cases ks with
  | nil =>
    cases vs with
    | nil => simp only [cPr] at h; cases h; exact pps_nil
    | cons => simp only [cPr] at h; cases h
  | cons k ks =>
    cases k with
    | none => simp only [cPr] at h; cases h
    | some k =>
      cases vs with
      | nil => simp only [cPr] at h; cases h
      | cons v vs =>
        simp only [cPr] at h
        obtain ⟨a, h1, h⟩ := bnd h
        obtain ⟨b, h2, h⟩ := bnd h
        obtain ⟨r', h3, rfl⟩ := mpd h
        exact pps_cons (pe_x fun Fo => pe_val (S.e Y k a h1 X W Fo F)) (pe_x fun Fo => pe_val (S.e Y v b h2 X W Fo F)) (S.pr Y ks vs r' h3 X W Fo F pos)
/-! truth -/
theorem snd_q (S : Snd P0 Z Φ k n) : ∀ Y o vs a, cQ P0 Y (n + 1) o vs = some a → All P0 Z Φ k (fun X _ W Fo => ∀ p, PW X (.BoolOp o vs p) (tT Z Fo W (evB Φ a))) Y := by
  intro Y o vs a h X W Fo F p
  rcases vs with _ | ⟨e, _ | ⟨f, r⟩⟩
  · simp only [cQ] at h; cases h
  · simp only [cQ] at h
    cases o with
    | And => exact pw_and1 (S.b Y e a h X W Fo F)
    | Or => exact pw_or1 (S.b Y e a h X W Fo F)
  · simp only [cQ] at h
    obtain ⟨x, h1, h⟩ := bnd h
    obtain ⟨y, h2, rfl⟩ := mpd h
    cases o with
    | And => exact dt_and (S.b Y e x h1 X W Fo F) (S.q Y _ _ y h2 X W Fo F p)
    | Or => exact dt_or (S.b Y e x h1 X W Fo F) (S.q Y _ _ y h2 X W Fo F p)
theorem snd_o (S : Snd P0 Z Φ k n) : ∀ Y o vs a, cO P0 Y (n + 1) o vs = some a → All P0 Z Φ k (fun X _ W Fo => ∀ p, PE X (.BoolOp o vs p) (tO Z Fo W (a.opd (evE Φ a)))) Y := by
  intro Y o vs a h X W Fo F p
  rcases vs with _ | ⟨e, _ | ⟨f, r⟩⟩
  · simp only [cO] at h; cases h
  · simp only [cO] at h
    exact ⟨fun pins s σ H Q I q => BoolOp_one ((S.e Y e a h X W Fo F).run pins s σ H Q I q)⟩
  · simp only [cO] at h
    obtain ⟨x, h1, h⟩ := bnd h
    obtain ⟨y, h2, rfl⟩ := mpd h
    cases o with
    | And => exact de_and F.K (pe_val (S.e Y e x h1 X W Fo F)) (pe_val (S.o Y _ _ y h2 X W Fo F p))
    | Or => exact de_or F.K (pe_val (S.e Y e x h1 X W Fo F)) (pe_val (S.o Y _ _ y h2 X W Fo F p))
theorem not_set {e : Expr} (h : notSet e = true) : ∀ es k p, e ≠ .Set es k p := fun es k p z => by rw [z] at h; cases h
theorem snd_b (S : Snd P0 Z Φ k n) : ∀ Y e a, cB P0 Y (n + 1) e = some a → All P0 Z Φ k (fun X _ W Fo => PT X e (tT Z Fo W (evB Φ a))) Y := by
  intro Y e a h X W Fo F
  simp only [cB] at h
  split at h
  · rename_i ea o eb p
    obtain ⟨c, h⟩ := ifs' h
    obtain ⟨x, h1, h⟩ := bnd h
    obtain ⟨y, h2, rfl⟩ := mpd h
    have q := dt_cmp (pos := p) F.K F.w (by have := F.units; omega) (copOf o) (S.e Y _ x h1 X W Fo F) (S.e Y _ y h2 X W Fo F) (not_set c)
    rw [copOf_spec] at q
    exact q
  · rename_i ea o p eb ec pos
    obtain ⟨c, h⟩ := ifs' h
    rw [Bool.and_eq_true] at c
    obtain ⟨x, h1, h⟩ := bnd h
    obtain ⟨y, h2, h⟩ := bnd h
    obtain ⟨z, h3, rfl⟩ := mpd h
    have q := dt_ch (pos := pos) F.K F.w (by have := F.units; omega) (copOf o) (copOf p) (S.e Y _ x h1 X W Fo F) (S.e Y _ y h2 X W Fo F) (S.e Y _ z h3 X W Fo F) c.2
    rw [copOf_spec, copOf_spec] at q
    exact q
  · exact (S.q Y _ _ a h X W Fo F _).pt
  · obtain ⟨x, h1, rfl⟩ := mpd h
    exact dt_not (S.b Y _ x h1 X W Fo F)
  · obtain ⟨c, h⟩ := ifs' h
    obtain ⟨x, h1, rfl⟩ := mpd h
    exact dt_tru F.K c (S.e Y _ x h1 X W Fo F)
end
end LB

namespace LB
open PySem L2 PyProof.Rows

section
variable {P0 : Prg} {Z : Stc} {Φ : Str → Fn} {k : Nat} {n : Nat}
theorem bi1Of_spec {x : Str} {b : Bi1} (h : bi1Of x = some b) : x = b.nm ∧ ∀ c, b = .isi c → False := by
  have q := List.find?_some h
  have m := List.mem_of_find?_eq_some h
  refine ⟨(of_decide_eq_true q).symm, fun c e => ?_⟩
  subst e
  simp [bi1All] at m
theorem omOf_spec {x : Str} {b : Om} (h : omOf x = some b) : x = b.nm := by
  have q := List.find?_some h
  exact (of_decide_eq_true q).symm
theorem snd_e (S : Snd P0 Z Φ k n) : ∀ Y e a, cE P0 Y (n + 1) e = some a → All P0 Z Φ k (fun X _ W Fo => PE X e (tO Z Fo W (a.opd (evE Φ a)))) Y := by
  intro Y e a h X W Fo F
  simp only [cE] at h
  split at h
  · rename_i x h1
    cases h
    by_cases c : inPos Y.al e.pos = true
    · rw [if_pos c] at h1
      exact pe_al (S.nw Y e x h1 X W Fo F)
    · rw [if_neg c] at h1
      cases h1
  · split at h
    · rename_i b h1
      cases h
      exact S.v Y e _ h1 X W Fo F
    · obtain ⟨x, h1, rfl⟩ := mpd h
      exact pe_frz (S.nw Y e x h1 X W Fo F)
theorem name_ok {Y : Blk} {x : Str} {p : Pos} {a : Ex} {m : Nat} (h : cName P0 Y m x = some a) : All P0 Z Φ k (fun X _ W Fo => PE X (.Name x p) (tO Z Fo W (a.opd (evE Φ a)))) Y := by
  intro X W Fo F
  simp only [cName] at h
  obtain ⟨c, h⟩ := ifs' h
  obtain ⟨d1, d2, d3⟩ := okNm_spec c
  split at h
  · rename_i i e1
    obtain ⟨c2, h⟩ := ifs' h
    cases h
    refine pe_var (by rw [F.N]; exact idx_spec e1) ?_ d1 d2
    unfold Vis
    rw [F.sc]
    unfold visB at c2
    split at c2 <;> first | exact .inl (by assumption) | exact .inr (.inl (by assumption)) | exact .inr (.inr (by assumption)) | cases c2
  · obtain ⟨c2, h⟩ := ifs' h
    split at h
    · rename_i d h1
      cases h
      obtain ⟨v, u, hm, r, dv⟩ := F.st.cs x d h1
      exact pe_k (F.gl c2) hm r dv d1
    · obtain ⟨c3, h⟩ := ifs' h
      cases h
      rw [Bool.and_eq_true] at c3
      obtain ⟨n, hn⟩ := Option.isSome_iff_exists.mp c3.2
      obtain ⟨f, fd, ps, _, hm, _⟩ := F.st.fn x n hn
      exact pe_k (v := .ref f) (F.gl c2) hm rfl (fun _ _ _ => .glo (F.mg ▸ hm)) d1
theorem snd_call (S : Snd P0 Z Φ k n) : ∀ Y x es a, cCall P0 Y (n + 1) x es = some a → All P0 Z Φ k (fun X _ W Fo => ∀ p pos, PE X (.Call (.Name x p) es [] pos) (tO Z Fo W (a.opd (evE Φ a)))) Y := by
  intro Y x es a h X W Fo F p pos
  simp only [cCall] at h
  obtain ⟨c, h⟩ := ifs' h
  rw [Bool.and_eq_true] at c
  obtain ⟨d1, d2, d3⟩ := okNm_spec c.1
  split at h
  · rename_i j e1
    obtain ⟨r, h1, h⟩ := bnd h
    obtain ⟨c2, h⟩ := ifs' h
    cases h
    have c2 : es.length = j := of_decide_eq_true c2
    obtain ⟨f, fd, ps, hl, hm, hk, hb, T⟩ := F.st.fn x j e1
    obtain ⟨a2, b2, l2⟩ := S.x Y es r h1
    have ln : es.length = ps.length := c2.trans hl.symm
    rw [← hl] at T
    cases es with
    | nil =>
      have q := de_call0 (p := p) (pos := pos) (Fo := Fo) T F.rmk (F.gl c.2) hm hk hb F.pa (by rw [← ln]; rfl) d1
      have er : r = .nil := by
        cases n with
        | zero => simp only [cX] at h1; cases h1
        | succ n => simp only [cX] at h1; exact (Option.some.inj h1).symm
      subst er
      exact q
    | cons e es => exact de_call T F.rmk (F.gl c.2) hm hk hb F.pa (a2 X W Fo F) (fun m ds m' e => (l2 m ds m' e).trans ln) d1 (star_cons (b2 e List.mem_cons_self)) (star_any fun e he => b2 e (List.mem_cons_of_mem _ he))
  · split at h
    · rename_i key j e1
      obtain ⟨r, h1, h⟩ := bnd h
      obtain ⟨c2, h⟩ := ifs' h
      cases h
      have c2 : es.length = j := of_decide_eq_true c2
      obtain ⟨a2, b2, l2⟩ := S.x Y es r h1
      have M := F.st.cl x key j e1
      cases es with
      | nil =>
        have er : r = .nil := by
          cases n with
          | zero => simp only [cX] at h1; cases h1
          | succ n => simp only [cX] at h1; exact (Option.some.inj h1).symm
        subst er
        subst c2
        exact de_mk0 F.K F.mg F.rm F.pa M (F.gl c.2) d1
      | cons e es => exact de_mk F.K F.mg F.rm F.pa M (fun m ds m' e => (l2 m ds m' e).trans c2) (F.gl c.2) (a2 X W Fo F) d1 (star_cons (b2 e List.mem_cons_self)) (star_any fun e he => b2 e (List.mem_cons_of_mem _ he))
    obtain ⟨c2, h⟩ := ifs' h
    obtain ⟨gx, fx⟩ := F.blt c2
    split at h
    · rename_i e
      split at h
      · rename_i b e2
        obtain ⟨c3, h⟩ := ifs' h
        obtain ⟨y, h1, rfl⟩ := mpd h
        obtain ⟨nm, hn⟩ := bi1Of_spec e2
        exact de_bi1 F.K F.calm F.rmk.gd F.units b hn nm gx fx (star_cons c3) (S.e Y _ y h1 X W Fo F)
      · cases h
    · rename_i e f
      split at h
      · rename_i c3
        have c3 : x = "isinstance" := of_decide_eq_true c3
        subst c3
        split at h
        · rename_i t p2
          split at h
          · rename_i c4
            rw [Bool.and_eq_true, Bool.and_eq_true] at c4
            obtain ⟨cl, h1, h⟩ := bnd h
            obtain ⟨y, h2, rfl⟩ := mpd h
            obtain ⟨gt, ft⟩ := F.blt c4.1.1
            exact de_isi F.K h1 gx fx gt ft (by rw [star_cons c4.1.2]; rfl) (S.e Y _ y h2 X W Fo F)
          · obtain ⟨c4, h⟩ := ifs' h
            rw [Bool.and_eq_true, Bool.and_eq_true, Bool.and_eq_true] at c4
            obtain ⟨⟨⟨c4, c5⟩, c6⟩, c7⟩ := c4
            obtain ⟨y, h2, rfl⟩ := mpd h
            obtain ⟨cv, hcv, ht⟩ := F.st.tbl_at (by simpa using c7)
            exact de_isx F.K gx fx (F.gl c4) (okNm_debug c5) hcv (fun cn k e C hm => by
              obtain ⟨D, q1, q2, q3, q4⟩ := ht cn k e
              rw [F.mg, hm] at q1
              cases q1
              exact ⟨q2, q3⟩) (by rw [star_cons c6]; rfl) (S.e Y _ y h2 X W Fo F)
        · cases h
      · split at h
        · rename_i c3
          obtain ⟨c4, h⟩ := ifs' h
          rw [Bool.and_eq_true] at c4
          obtain ⟨y, h1, h⟩ := bnd h
          obtain ⟨z, h2, rfl⟩ := mpd h
          rw [Bool.or_eq_true] at c3
          refine de_mn2 (decide (x = "max")) ?_ F.calm gx fx (by rw [star_cons c4.1, star_cons c4.2]; rfl) (by rw [star_cons c4.2]; rfl) (S.e Y _ y h1 X W Fo F) (S.e Y _ z h2 X W Fo F)
          by_cases hx : x = ("max" : Str)
          · rw [decide_eq_true hx, if_pos rfl]; exact hx
          · rw [decide_eq_false hx, if_neg (by decide)]
            rcases c3 with q | q
            · exact of_decide_eq_true q
            · exact absurd (of_decide_eq_true q) hx
        · cases h
    · cases h
theorem namesIn_ok {l : List Expr} {fs : List Str} (h : namesIn l = some fs) : True := trivial
theorem snd_meth (S : Snd P0 Z Φ k n) : ∀ Y o m ap es p a, cMeth P0 Y (n + 1) o m ap es p = some a → All P0 Z Φ k (fun X _ W Fo => PE X (.Call (.Attribute o m ap) es [] p) (tO Z Fo W (a.opd (evE Φ a)))) Y := by
  intro Y o m ap es p a h X W Fo F
  simp only [cMeth] at h
  obtain ⟨c, h⟩ := ifs' h
  rw [Bool.and_eq_true] at c
  split at h
  · rename_i om e1
    obtain ⟨c2, h⟩ := ifs' h
    have c2 : es.length < 20 := of_decide_eq_true c2
    obtain ⟨b, h1, h⟩ := bnd h
    obtain ⟨r, h2, rfl⟩ := mpd h
    obtain ⟨a2, b2, l2⟩ := S.x Y es r h2
    cases es with
    | nil =>
      have er : r = .nil := by
        cases n with
        | zero => simp only [cX] at h2; cases h2
        | succ n => simp only [cX] at h2; exact (Option.some.inj h2).symm
      subst er
      exact de_om0 F.K om (omOf_spec e1) (S.e Y o b h1 X W Fo F) (base_plain c.1) c.2
    | cons e es => exact de_om F.K om (omOf_spec e1) (S.e Y o b h1 X W Fo F) (a2 X W Fo F) (base_plain c.1) (star_few b2 c2) c.2 (star_cons (b2 e List.mem_cons_self)) (star_any fun e he => b2 e (List.mem_cons_of_mem _ he))
  · split at h
    · split at h
      · obtain ⟨c2, h⟩ := ifs' h
        have c2 : m = "bit_length" := of_decide_eq_true c2
        subst c2
        obtain ⟨b, h1, rfl⟩ := mpd h
        exact de_bits (S.e Y o b h1 X W Fo F) (base_plain c.1) c.2
      · rename_i kx _ _
        obtain ⟨om, e1, h⟩ := bnd h
        obtain ⟨b, h1, h⟩ := bnd h
        obtain ⟨r, h2, rfl⟩ := mpd h
        obtain ⟨a2, b2, l2⟩ := S.x Y [kx] r h2
        exact de_lm F.K (by have := F.units; omega) om (lmOf_spec e1) (S.e Y o b h1 X W Fo F) (a2 X W Fo F) (base_plain c.1) (star_few b2 (by show 1 < 20; omega)) c.2 (star_cons (b2 kx List.mem_cons_self)) (star_any fun e he => b2 e (List.mem_cons_of_mem _ he))
      · rename_i kx z _ _
        obtain ⟨c2, h⟩ := ifs' h
        simp only [Bool.and_eq_true, decide_eq_true_eq] at c2
        obtain ⟨⟨e0, p1⟩, p2⟩ := c2
        obtain ⟨b, h1, h⟩ := bnd h
        obtain ⟨y, h2, h⟩ := bnd h
        obtain ⟨w, h3, rfl⟩ := mpd h
        have pl : ∀ e ∈ [kx, z], plainA e = true := fun e he => by
          rcases List.mem_cons.mp he with q | q
          · rw [q]; exact p1
          · rw [List.mem_singleton.mp q]; exact p2
        subst e0
        exact de_dget (by have := F.units; omega) (S.e Y o b h1 X W Fo F) (pe_val (S.e Y kx y h2 X W Fo F)) (pe_val (S.e Y z w h3 X W Fo F)) ⟨base_plain c.1, star_few pl (by show 2 < 20; omega), c.2, by rw [star_cons p1, star_cons p2]; rfl⟩
      · cases h
    · obtain ⟨b, h1, h⟩ := bnd h
      obtain ⟨r, h2, h⟩ := bnd h
      replace h := ifs' h
      obtain ⟨c3, h⟩ := h
      cases h
      have c3 : es.length < 20 := of_decide_eq_true c3
      obtain ⟨a2, b2, l2⟩ := S.x Y es r h2
      have hcs : ∀ c key, (P0.having m es.length).lookup c = some key → MtOk X Z k (Φ key) c m es.length := fun c key hl => by
        have mem := lookup_mem' hl
        unfold Prg.having at mem
        obtain ⟨⟨c', m', key', n'⟩, hm, he⟩ := List.mem_filterMap.mp mem
        simp only at he
        split at he
        · rename_i cc
          cases he
          obtain ⟨rfl, rfl⟩ := cc
          exact F.st.mt c m' key es.length hm
        · cases he
      cases es with
      | nil =>
        have er : r = .nil := by
          cases n with
          | zero => simp only [cX] at h2; cases h2
          | succ n => simp only [cX] at h2; exact (Option.some.inj h2).symm
        subst er
        exact de_mth0 F.K F.mg F.rmk F.pa hcs (S.e Y o b h1 X W Fo F) (base_plain c.1) c.2
      | cons e es => exact de_mth F.K F.mg F.rmk F.pa hcs l2 (S.e Y o b h1 X W Fo F) (a2 X W Fo F) (star_cons (b2 e List.mem_cons_self)) (star_any fun e he => b2 e (List.mem_cons_of_mem _ he)) (base_plain c.1) (star_few b2 c3) c.2
theorem not_slice {e : Expr} (h : notSlice e = true) : ∀ lo hi p, e ≠ .Slice lo hi none p := fun lo hi p z => by rw [z] at h; cases h
theorem cv_go {X : Cx} {Y : Blk} {W : WX} {Fo : Hp} {fs : List Str} {f : Mo D} {r : Mo (List D)} {fe sl : Expr} {sp p : Pos} (F : Fit P0 Z Φ k X Y W) : ∀ {es : List Expr}, (!es.isEmpty) = true → (∀ x ∈ fs, FnAt X Z k (Φ x) x es.length) → PE X (.Subscript fe sl sp) (tE Z Fo W f) → PA X es (tL Z Fo W r) →
    (∀ e ∈ es, plainA e = true) → (∀ m ds m', r m = .ok ds m' → ds.length = es.length) → PE X (.Call (.Subscript fe sl sp) es [] p) (tE Z Fo W (cvM Φ fs f r))
  | [], h, _, _, _, _, _ => absurd h (by decide)
  | e :: es, _, hfs, hf, ha, b2, l2 => de_cv F.mg F.rmk F.pa hfs l2 hf ha (star_cons (b2 e List.mem_cons_self)) (star_any fun e he => b2 e (List.mem_cons_of_mem _ he)) rfl
theorem snd_v (S : Snd P0 Z Φ k n) : ∀ Y e a, cV P0 Y (n + 1) e = some a → All P0 Z Φ k (fun X _ W Fo => PE X e (tO Z Fo W (a.opd (evE Φ a)))) Y := by
  intro Y e a h X W Fo F
  simp only [cV] at h
  split at h
  · obtain ⟨d, h1, rfl⟩ := mpd h
    exact constD_ok h1
  · exact name_ok h X W Fo F
  · rename_i ea o eb p
    obtain ⟨b, h1, h⟩ := bnd h
    obtain ⟨x, h2, h⟩ := bnd h
    obtain ⟨y, h3, rfl⟩ := mpd h
    have hx := S.e Y _ x h2 X W Fo F
    have hy := S.e Y _ y h3 X W Fo F
    have q1 := de_bop (pos := p) F.K b hx hy
    have q2 := de_bopN (pos := p) b hx hy
    rw [bopOf_spec h1] at q1 q2
    exact pe_any q1 (pe_frz q2) (bop_or b _ _)
  · obtain ⟨x, h1, rfl⟩ := mpd h
    exact de_neg (S.e Y _ x h1 X W Fo F)
  · obtain ⟨x, h1, rfl⟩ := mpd h
    exact de_inv (S.e Y _ x h1 X W Fo F)
  · obtain ⟨x, h1, rfl⟩ := mpd h
    exact de_not F.K (S.e Y _ x h1 X W Fo F)
  · obtain ⟨x, h1, h⟩ := bnd h
    obtain ⟨y, h2, h⟩ := bnd h
    obtain ⟨z, h3, rfl⟩ := mpd h
    exact de_ite (S.b Y _ x h1 X W Fo F) (pe_val (S.e Y _ y h2 X W Fo F)) (pe_val (S.e Y _ z h3 X W Fo F))
  · exact S.o Y _ _ a h X W Fo F _
  · rename_i ea o eb p
    obtain ⟨c, h⟩ := ifs' h
    obtain ⟨x, h1, h⟩ := bnd h
    obtain ⟨y, h2, rfl⟩ := mpd h
    have q := de_cmp (pos := p) F.K F.w (by have := F.units; omega) (copOf o) (S.e Y _ x h1 X W Fo F) (S.e Y _ y h2 X W Fo F) (not_set c)
    rw [copOf_spec] at q
    exact q
  · rename_i ea o p eb ec pos
    obtain ⟨c, h⟩ := ifs' h
    rw [Bool.and_eq_true] at c
    obtain ⟨x, h1, h⟩ := bnd h
    obtain ⟨y, h2, h⟩ := bnd h
    obtain ⟨z, h3, rfl⟩ := mpd h
    have q := de_ch (pos := pos) F.K F.w (by have := F.units; omega) (copOf o) (copOf p) (S.e Y _ x h1 X W Fo F) (S.e Y _ y h2 X W Fo F) (S.e Y _ z h3 X W Fo F) c.2
    rw [copOf_spec, copOf_spec] at q
    exact q
  · split at h
    · rename_i c
      rw [Bool.and_eq_true, decide_eq_true_eq] at c
      obtain ⟨x, h1, rfl⟩ := mpd h
      exact de_fld F.K c.2 (S.e Y _ x h1 X W Fo F) (base_plain c.1)
    · obtain ⟨c, h⟩ := ifs' h
      rw [Bool.and_eq_true] at c
      obtain ⟨x, h1, rfl⟩ := mpd h
      exact de_xf F.K (F.xf_at) (S.e Y _ x h1 X W Fo F) (base_plain c.1)
  · obtain ⟨r, h1, rfl⟩ := mpd h
    exact (pe_tup ((S.x Y _ r h1).1 X W Fo F)).imp fun _ _ _ q => rd_tup q
  · split at h
    · exact S.call Y _ _ a h X W Fo F _ _
    · exact S.meth Y _ _ _ _ _ a h X W Fo F
    · split at h
      · rename_i fs e1
        obtain ⟨c, h⟩ := ifs' h
        rw [Bool.and_eq_true, List.all_eq_true] at c
        obtain ⟨f, h1, h⟩ := bnd h
        obtain ⟨r, h2, rfl⟩ := mpd h
        obtain ⟨a2, b2, l2⟩ := S.x Y _ r h2
        refine cv_go F c.1 (fun x hx => ?_) (pe_val (S.e Y _ f h1 X W Fo F)) (a2 X W Fo F) b2 l2
        obtain ⟨f, fd, ps, h5⟩ := F.st.fn x _ (of_decide_eq_true (c.2 x hx))
        exact ⟨f, fd, ps, h5⟩
      · cases h
    · cases h
  · split at h
    · obtain ⟨x, h1, h⟩ := bnd h
      obtain ⟨lo, h2, h⟩ := bnd h
      obtain ⟨hi, h3, rfl⟩ := mpd h
      exact pe_any (de_sl F.K (S.e Y _ x h1 X W Fo F) (S.px Y _ lo h2 X W Fo F) (S.px Y _ hi h3 X W Fo F)) (pe_frz (de_slN (S.e Y _ x h1 X W Fo F) (S.px Y _ lo h2 X W Fo F) (S.px Y _ hi h3 X W Fo F))) (sl_or _ _ _)
    · obtain ⟨x, h1, rfl⟩ := mpd h
      exact pe_any (de_revT F.K (S.e Y _ x h1 X W Fo F)) (pe_frz (de_rev F.K (S.e Y _ x h1 X W Fo F))) (rv_or _)
    · obtain ⟨c, h⟩ := ifs' h
      obtain ⟨x, h1, h⟩ := bnd h
      obtain ⟨y, h2, rfl⟩ := mpd h
      exact de_ix F.K F.w (by have := F.units; omega) (S.e Y _ x h1 X W Fo F) (S.e Y _ y h2 X W Fo F) (not_slice c)
  · cases h
/-- a comprehension's block -/
theorem Fit.blk {X : Cx} {Y : Blk} {W : WX} {scope : Scope} {own : List (Str × Nat)} (F : Fit P0 Z Φ k X Y W) (h : blkC Y.N Y.sc scope own = true) (s : Shared) (H : Hp) (C : Addr) (cl : List (Str × Addr)) (fp : List Addr) :
    Fit P0 Z Φ k (X.blk s H scope (compEnvC scope cl C X.env) fp) (Y.inner scope) noX where
  st := ⟨F.st.free, F.st.fn, F.st.cs, fun x key n h => ⟨(F.st.cl x key n h).ex⟩, fun c m key n h => ⟨(F.st.mt c m key n h).ex⟩, F.st.ex, F.st.sub, F.st.exi, F.st.low⟩
  K := F.K
  w := F.w
  mg := F.mg
  calm := F.calm
  rm := F.rm
  nd := F.nd
  N := F.N
  sc := by
    show relS scope X.env.scope = relS scope Y.sc
    rw [F.sc]
  kd := (blkOk_by h).kind
  fc := fun _ z => z
  pa := fun σ pins H s e s' I c => by
    obtain ⟨_, _, _, _, _, _, _, _, _, _, _, _, z⟩ := c
    exact z.elim
theorem snd_s (S : Snd P0 Z Φ k n) : ∀ Y tg e a, cS P0 Y (n + 1) tg e = some a → All P0 Z Φ k (fun X _ W Fo => PI X tg e (tI Z Fo W (evS Φ a))) Y := by
  intro Y tg e a h X W Fo F
  simp only [cS] at h
  split at h
  · rename_i x p es pos
    split at h
    · rename_i c
      simp only [Bool.and_eq_true, decide_eq_true_eq] at c
      obtain ⟨c1, rfl⟩ := c
      obtain ⟨gx, fx⟩ := F.blt c1
      obtain ⟨c2, h⟩ := ifs' h
      simp only [Bool.and_eq_true, decide_eq_true_eq] at c2
      obtain ⟨r, h1, rfl⟩ := mpd h
      obtain ⟨a2, b2, l2⟩ := S.x Y es r h1
      match es, c2, a2, b2, l2 with
      | [e1], _, a2, b2, l2 => exact di_rng1 gx fx (by rw [star_cons (b2 e1 (by simp))]; rfl) (a2 X W Fo F) l2
      | [e1, e2], _, a2, b2, l2 => exact di_rng2 gx fx (by rw [star_cons (b2 e1 (by simp)), star_cons (b2 e2 (by simp))]; rfl) (by rw [star_cons (b2 e2 (by simp))]; rfl) (a2 X W Fo F) l2
      | [e1, e2, e3], _, a2, b2, l2 => exact di_rng3 gx fx (star_cons (b2 e1 (by simp))) (star_any fun e he => b2 e (List.mem_cons_of_mem _ he)) (a2 X W Fo F) l2
      | [], c2, _, _, _ => exact absurd c2.1 (by simp)
      | _ :: _ :: _ :: _ :: _, c2, _, _, _ => exact absurd c2.2 (by simp)
    · split at h
      · rename_i c
        simp only [Bool.and_eq_true, decide_eq_true_eq, Bool.not_eq_true'] at c
        obtain ⟨⟨c1, rfl⟩, c3⟩ := c
        obtain ⟨gx, fx⟩ := F.blt c1
        split at h
        · rename_i e1
          obtain ⟨r, h1, rfl⟩ := mpd h
          obtain ⟨a2, b2, l2⟩ := S.x Y _ r h1
          cases tg with
          | Tuple elts j tp => exact di_en F.K gx fx (by rw [star_cons (b2 e1 (by simp))]; rfl) (a2 X W Fo F)
          | _ => cases c3
        · cases h
      · split at h
        · rename_i c
          simp only [Bool.and_eq_true, decide_eq_true_eq, Bool.not_eq_true'] at c
          obtain ⟨⟨c1, rfl⟩, c3⟩ := c
          obtain ⟨gx, fx⟩ := F.blt c1
          split at h
          · rename_i e1 e2
            obtain ⟨r, h1, rfl⟩ := mpd h
            obtain ⟨a2, b2, l2⟩ := S.x Y _ r h1
            cases tg with
            | Tuple elts j tp => exact di_zz F.K gx fx (star_cons (b2 e1 (by simp))) (star_any fun e he => b2 e (List.mem_cons_of_mem _ he)) (a2 X W Fo F)
            | _ => cases c3
          · cases h
        · split at h
          · rename_i b h1
            cases h
            exact di_seq F.K (pe_val (S.call Y _ _ b h1 X W Fo F _ _))
          · cases h
  · obtain ⟨b, h1, rfl⟩ := mpd h
    exact di_seq F.K (pe_val (S.e Y _ b h1 X W Fo F))
end
end LB

namespace LB
open PySem L2 PyProof.Rows

section
variable {P0 : Prg} {Z : Stc} {Φ : Str → Fn} {k : Nat} {n : Nat}
theorem zipArgs_spec {e : Expr} {z : Str} {a b : Expr} (h : zipArgs e = some (z, a, b)) : ∃ p pos, e = .Call (.Name z p) [a, b] [] pos := by
  unfold zipArgs at h
  split at h
  · cases h; exact ⟨_, _, rfl⟩
  · cases h
theorem snd_nw (S : Snd P0 Z Φ k n) : ∀ Y e a, cN P0 Y (n + 1) e = some a → All P0 Z Φ k (fun X _ W Fo => PE X e (tN Z Fo W (evN Φ a))) Y := by
  intro Y e a h X W Fo F
  simp only [cN] at h
  split at h
  · obtain ⟨r, h1, rfl⟩ := mpd h
    exact (pe_lst ((S.x Y _ r h1).1 X W Fo F)).imp fun _ _ _ q => rd_lst q
  · rename_i ea o eb p
    obtain ⟨b, h1, h⟩ := bnd h
    obtain ⟨x, h2, h⟩ := bnd h
    obtain ⟨y, h3, rfl⟩ := mpd h
    have q2 := de_bopN (pos := p) b (S.e Y _ x h2 X W Fo F) (S.e Y _ y h3 X W Fo F)
    rw [bopOf_spec h1] at q2
    exact q2
  · cases h
    exact de_dct0
  · rename_i ks vs p _
    obtain ⟨c, h⟩ := ifs' h
    simp only [Bool.and_eq_true, decide_eq_true_eq, Bool.not_eq_true'] at c
    obtain ⟨⟨⟨c1, c2⟩, c3⟩, c4⟩ := c
    obtain ⟨r, h1, rfl⟩ := mpd h
    exact de_dct (S.pr Y _ _ r h1 X W Fo F p) c4 c3 (fun z => by rw [z] at c2; cases c2) c1
  · rename_i f p e pos
    by_cases c : (decide (f = "list") && bltB P0 Y f) = true
    case neg =>
      replace h := (if_neg c).symm.trans h
      replace h := ifs' h
      obtain ⟨c, h⟩ := h
      simp only [Bool.and_eq_true, decide_eq_true_eq] at c
      obtain ⟨c0, c1⟩ := c
      subst c0
      obtain ⟨gx, fx⟩ := F.blt c1
      split at h
      · rename_i g gp e2 gpos
        replace h := ifs' h
        obtain ⟨c, h⟩ := h
        simp only [Bool.and_eq_true, decide_eq_true_eq] at c
        obtain ⟨⟨c2, c3⟩, c4⟩ := c
        subst c2
        obtain ⟨gy, fy⟩ := F.blt c3
        obtain ⟨x, h1, rfl⟩ := mpd h
        exact de_sset F.K F.calm gx fx gy fy (star_cons c4) (S.e Y e2 x h1 X W Fo F)
      · replace h := ifs' h
        obtain ⟨c4, h⟩ := h
        obtain ⟨x, h1, rfl⟩ := mpd h
        exact de_srt F.K gx fx (star_cons c4) (S.e Y _ x h1 X W Fo F)
    replace h := (if_pos c).symm.trans h
    simp only [Bool.and_eq_true, decide_eq_true_eq] at c
    obtain ⟨c0, c1⟩ := c
    subst c0
    obtain ⟨gx, fx⟩ := F.blt c1
    have one : ∀ {e}, (if plainA e = true then (cE P0 Y n e).map Nx.list else none) = some a → PE X (.Call (.Name "list" p) [e] [] pos) (tN Z Fo W (evN Φ a)) := fun {e} h => by
      obtain ⟨c, h⟩ := ifs' h
      obtain ⟨x, h1, rfl⟩ := mpd h
      exact de_list F.K gx fx (star_cons c) (S.e Y e x h1 X W Fo F)
    cases e1 : zipArgs e with
    | none => rw [e1] at h; exact one h
    | some q =>
      rw [e1] at h
      obtain ⟨z, ea, eb⟩ := q
      obtain ⟨zp, zpos, rfl⟩ := zipArgs_spec e1
      replace h := ifs' h
      obtain ⟨cz, h⟩ := h
      simp only [Bool.and_eq_true, decide_eq_true_eq] at cz
      obtain ⟨cz0, cz1⟩ := cz
      subst cz0
      obtain ⟨gz, fz⟩ := F.blt cz1
      obtain ⟨r, h1, rfl⟩ := mpd h
      obtain ⟨a2, b2, l2⟩ := S.x Y _ r h1
      exact de_lzip F.K F.calm gz fz gx fx (star_cons (b2 ea (by simp))) (star_any fun e he => b2 e (List.mem_cons_of_mem _ he)) (a2 X W Fo F)
  · split at h
    · obtain ⟨x, h1, h⟩ := bnd h
      obtain ⟨lo, h2, h⟩ := bnd h
      obtain ⟨hi, h3, rfl⟩ := mpd h
      exact de_slN (S.e Y _ x h1 X W Fo F) (S.px Y _ lo h2 X W Fo F) (S.px Y _ hi h3 X W Fo F)
    · obtain ⟨x, h1, rfl⟩ := mpd h
      exact de_rev F.K (S.e Y _ x h1 X W Fo F)
    · cases h
  · rename_i le gs scope lpos
    split at h
    · rename_i tg it ifs
      obtain ⟨c, h⟩ := ifs' h
      rw [Bool.and_eq_true] at c
      obtain ⟨s, h1, h⟩ := bnd h
      obtain ⟨t, h2, h⟩ := bnd h
      obtain ⟨y, h3, h⟩ := bnd h
      have ok : BlkOk X.N X.env.scope scope (ownOf Y.N scope) := by rw [F.N, F.sc]; exact blkOk_by c.2
      have pi := S.s Y _ _ s h1 X W Fo F
      have pg := (S.t _ _ t h2).1
      have pe := S.e _ _ y h3
      split at h
      · cases h
        exact de_lc F.calm F.nd pi ok (fun s H C cl fp Fo => pg _ _ Fo (F.blk c.2 s H C cl fp)) (fun s H C cl fp => ⟨fun pins s2 σ2 H2 Q I ⟨Fo2, g, m, G, q⟩ => pts_nil.run pins s2 σ2 H2 Q I (q true H2 g G .rfl' rfl)⟩) (fun s H C cl fp Fo => pe_val (pe _ _ Fo (F.blk c.2 s H C cl fp))) (fold_plain c.1)
      · obtain ⟨b, h4, rfl⟩ := mpd h
        exact de_lc F.calm F.nd pi ok (fun s H C cl fp Fo => pg _ _ Fo (F.blk c.2 s H C cl fp)) (fun s H C cl fp => pts_one (pt_x fun Fo => S.b _ _ b h4 _ _ Fo (F.blk c.2 s H C cl fp))) (fun s H C cl fp Fo => pe_val (pe _ _ Fo (F.blk c.2 s H C cl fp))) (fold_plain c.1)
      · cases h
    · cases h
  · cases h
theorem snd_succ (S : Snd P0 Z Φ k n) : Snd P0 Z Φ k (n + 1) :=
  ⟨snd_e S, snd_v S, snd_o S, snd_x S, snd_px S, snd_call S, snd_meth S, snd_pr S, snd_nw S, snd_s S, snd_b S, snd_q S, snd_t S, snd_ts S⟩
theorem snd_all : ∀ n, Snd P0 Z Φ k n
  | 0 => snd_zero
  | n + 1 => snd_succ (snd_all n)
end
end LB

namespace LB
open PySem L2 PyProof.Rows

section
variable {P0 : Prg} {Z : Stc} {Φ : Str → Fn} {k : Nat} {n : Nat}
theorem nm_at {Y : Blk} {e : Expr} {i : Nat} (h : cT Y n e = some (.nm i)) : ∃ x p, e = .Name x p ∧ idx Y.N x = some i ∧ locB Y.sc x = true ∧ (Y.fnC x = true ∨ Y.sc.names.lookup x = some .local) := by
  cases n with
  | zero => simp only [cT] at h; cases h
  | succ n =>
    cases e with
    | Name x p =>
      simp only [cT] at h
      cases e1 : idx Y.N x with
      | none => rw [e1] at h; cases h
      | some j =>
        rw [e1] at h
        obtain ⟨c, h⟩ := ifs' h
        cases h
        rw [Bool.and_eq_true, Bool.or_eq_true] at c
        refine ⟨x, p, rfl, e1, c.1, c.2.imp_right fun q => ?_⟩
        split at q
        · assumption
        · cases q
    | Tuple es j p =>
      simp only [cT] at h
      obtain ⟨ts, _, h⟩ := mpd h
      cases h
    | _ => simp only [cT] at h; cases h
theorem nm_pg {X : Cx} {Y : Blk} {W : WX} {i : Nat} {x : Str} {p : Pos} (F : Fit P0 Z Φ k X Y W) (e1 : idx Y.N x = some i) (lb : locB Y.sc x = true) (hf : Y.fnC x = true ∨ Y.sc.names.lookup x = some .local) : PG X (.Name x p) (gName i) := by
  refine pg_name F.nd (by rw [F.N]; exact idx_spec e1) ?_ (hf.imp (F.fc x) fun q => by rw [F.sc]; exact q)
  show X.env.scope.names.lookup x = some .local ∨ X.env.scope.names.lookup x = some .cell
  rw [F.sc]
  unfold locB at lb
  split at lb <;> first | exact .inl (by assumption) | exact .inr (by assumption) | cases lb
theorem loc_of {X : Cx} {Y : Blk} {W : WX} {x : Str} (F : Fit P0 Z Φ k X Y W) (lb : locB Y.sc x = true) : Loc X.env.scope x := by
  show X.env.scope.names.lookup x = some .local ∨ X.env.scope.names.lookup x = some .cell
  rw [F.sc]
  unfold locB at lb
  split at lb <;> first | exact .inl (by assumption) | exact .inr (by assumption) | cases lb
theorem sw_no {e : Expr} {t : Option Expr} {l : Nat} {env : Env} (h : notComp e = true) : swapsWith e t l env = pure false := by
  cases e <;> first | rfl | cases h
theorem sws_no {e tg : Expr} {l : Nat} {env : Env} (h : notComp e = true) : swapsWithSole [tg] e l env = pure false := sw_no h
theorem st_no {e tg : Expr} {env : Env} (h1 : notTuple tg = true ∨ notTuple e = true) (h2 : ∀ es p, tg ≠ .List es p) : swappedStores [tg] e env = pure none := by
  cases tg with
  | Tuple ts j p =>
    rcases h1 with h | h
    · cases h
    · cases e <;> first | rfl | cases h
  | List ts p => exact absurd rfl (h2 _ _)
  | _ => cases e <;> rfl
theorem t_shape {Y : Blk} {e : Expr} {t : Tg} (h : cT Y n e = some t) : (∃ x p, e = .Name x p) ∨ ∃ es j p, e = .Tuple es j p := by
  cases n with
  | zero => simp only [cT] at h; cases h
  | succ n => cases e with
    | Name x p => exact .inl ⟨x, p, rfl⟩
    | Tuple es j p => exact .inr ⟨es, j, p, rfl⟩
    | _ => simp only [cT] at h; cases h
theorem each_one {tg : Expr} {env : Env} (h : plainA tg = true) : (assignEach [tg] env).map (·.2) = [assign tg env] := by
  cases tg <;> first | rfl | cases h
/-- a comprehension to a name -/
theorem lc_set {Y : Blk} {e : Expr} {gs : List Comprehension} {scope : Scope} {cp : Pos} {nx : Nx} (S : ∀ n, Snd P0 Z Φ k n) (h : cN P0 Y n (.ListComp e gs scope cp) = some nx) {X : Cx} {W : WX} {Fo : Hp} (F : Fit P0 Z Φ k X Y W) {i : Nat} {y : Str} {py spos : Pos} (hi : idx Y.N y = some i)
    (hl : Y.sc.names.lookup y = some .local) (hp : (py.line == cp.line) = true) (ha : (scope.names.any fun (n, k) => n == y && (k == .local || k == .cell)) = false) :
    PS X (.Assign [.Name y py] (.ListComp e gs scope cp) spos) (tS Z Fo W (ownM i (evN Φ nx))) ∧ PS X (.Assign [.Name y py] (.ListComp e gs scope cp) spos) (tS Z Fo W (asgM (.nm i) (alM (evN Φ nx)))) := by
  cases n with
  | zero => simp only [cN] at h; cases h
  | succ n =>
    simp only [cN] at h
    split at h
    · rename_i tg it ifs
      replace h := ifs' h
      obtain ⟨c, h⟩ := h
      rw [Bool.and_eq_true] at c
      obtain ⟨s, h1, h⟩ := bnd h
      obtain ⟨t, h2, h⟩ := bnd h
      obtain ⟨z, h3, h⟩ := bnd h
      have ok : BlkOk X.N X.env.scope scope (ownOf Y.N scope) := by rw [F.N, F.sc]; exact blkOk_by c.2
      have pi := (S n).s Y _ _ s h1 X W Fo F
      have pg := ((S n).t _ _ t h2).1
      have pe := (S n).e _ _ z h3
      have kd : X.env.scope.kind = .function := by rw [F.sc]; exact F.kd
      have lk : X.env.scope.names.lookup y = some .local := by rw [F.sc]; exact hl
      have sw := sw_true (elt := e) (gs := [⟨tg, it, ifs, 0⟩]) (scope := scope) (pos := cp) (py := py) (y := y) (l := spos.line) (env := X.env) kd lk hp ha
      split at h
      · cases h
        have q := ds_setLc0 (W := W) (c := .ret true) F.calm F.nd (by rw [F.N]; exact idx_spec hi) lk sw pi ok (fun s H C cl fp Fo => pg _ _ Fo (F.blk c.2 s H C cl fp)) (fun s H C cl fp => ⟨fun pins s2 σ2 H2 Q I ⟨Fo2, g, m, G, q⟩ => pts_nil.run pins s2 σ2 H2 Q I (q true H2 g G .rfl' rfl)⟩) (fun s H C cl fp Fo => pe_val (pe _ _ Fo (F.blk c.2 s H C cl fp))) (fold_plain c.1)
        exact ⟨ds_own q, ds_asgal q⟩
      · obtain ⟨b, h4, rfl⟩ := mpd h
        have q := ds_setLc0 (W := W) F.calm F.nd (by rw [F.N]; exact idx_spec hi) lk sw pi ok (fun s H C cl fp Fo => pg _ _ Fo (F.blk c.2 s H C cl fp)) (fun s H C cl fp => pts_one (pt_x fun Fo => (S n).b _ _ b h4 _ _ Fo (F.blk c.2 s H C cl fp))) (fun s H C cl fp Fo => pe_val (pe _ _ Fo (F.blk c.2 s H C cl fp))) (fold_plain c.1)
        exact ⟨ds_own q, ds_asgal q⟩
      · cases h
    · cases h
theorem sw_cell {e : Expr} {gs : List Comprehension} {scope : Scope} {cp py : Pos} {y : Str} {l : Nat} {env : Env} (h : env.scope.names.lookup y ≠ some .local) : swapsWith (.ListComp e gs scope cp) (some (.Name y py)) l env = pure false := by
  have ky : (env.kindOf y == some NameKind.local) = false := by
    show (env.scope.names.lookup y == some NameKind.local) = false
    cases q : env.scope.names.lookup y with
    | none => rfl
    | some z => cases z <;> first | rfl | exact absurd q h
  unfold swapsWith
  simp only [ky, Bool.and_false, Bool.false_and]
/-- a def's own context, or a try's in it -/
structure Top (X : Cx) (W : WX) : Prop where
  own : PassesOwn (model X.prog X.w) X.A X.env X.xe
  tk : Takes X W
  stk : X.stack = X.env :: X.outer
  frm : X.env.frame = some X.env.locals
  ex : X.ex = []
theorem Fit.tr {X : Cx} {Y : Blk} {W W' : WX} (F : Fit P0 Z Φ k X Y W) (pn : List (Addr × Obj)) (xe : Value → Shared → Prop) (tk : Takes (X.tr pn xe) W') : Fit P0 Z Φ k (X.tr pn xe) Y W' where
  st := ⟨F.st.free, F.st.fn, F.st.cs, fun x key n h => ⟨(F.st.cl x key n h).ex⟩, fun c m key n h => ⟨(F.st.mt c m key n h).ex⟩, F.st.ex, F.st.sub, F.st.exi, F.st.low⟩
  K := F.K
  w := F.w
  mg := F.mg
  calm := F.calm
  rm := F.rm
  nd := F.nd
  N := F.N
  sc := F.sc
  kd := F.kd
  fc := F.fc
  pa := passAt tk
theorem Fit.names {X : Cx} {Y : Blk} {W : WX} (F : Fit P0 Z Φ k X Y W) {x : Str} {cv : Value} (hcv : ClsAt X.mg x cv) (c4 : glB Y.sc x = true) (c2 : okNm x = true) : Names X x cv := by
  refine ⟨F.gl c4, okNm_debug c2, ?_⟩
  rcases hcv with ⟨C, rfl, hm⟩ | ⟨rfl, rfl, hm⟩
  · exact .inl hm
  · exact .inr ⟨hm, PyProof.Rows.Boot.«ValueError», by decide +kernel⟩
theorem Fit.exm {X : Cx} {Y : Blk} {W : WX} (F : Fit P0 Z Φ k X Y W) {t : Str} {cv : Value} (ht : ∀ cn b, (P0.tbl t).lookup cn = some b → ∃ C, X.mg cn = some (.ref C) ∧ ExcC X.K C ∧ PySem.W.kitOne X.K (.ref C) cv = some b ∧ PySem.W.exmOne X.K (.ref C) cv = some b) :
    ∀ cn b, (P0.tbl t).lookup cn = some b → ∀ C, Z.mg cn = some (.ref C) → PySem.W.exmOne X.K (.ref C) cv = some b := fun cn b e C hm => by
  obtain ⟨D, q1, q2, q3, q4⟩ := ht cn b e
  rw [F.mg, hm] at q1
  cases q1
  exact q4
theorem lclB_spec {sc : Scope} {x : Str} (h : lclB sc x = true) : sc.names.lookup x = some .local := by
  unfold lclB at h
  split at h
  · assumption
  · cases h
/-- statements -/
structure SndT (P0 : Prg) (Z : Stc) (Φ : Str → Fn) (k : Nat) (n : Nat) : Prop where
  st : ∀ Y s a, cSt P0 Y n s = some a → ∀ X W Fo, Fit P0 Z Φ k X Y W → Top X W → PS X s (tS Z Fo W (evT Φ a))
  ss : ∀ Y s a, cSs P0 Y n s = some a → ∀ X W Fo, Fit P0 Z Φ k X Y W → Top X W → PSs X s (tS Z Fo W (evTs Φ a))
  as : ∀ Y tg e p a, cAs P0 Y n tg e p = some a → ∀ X W Fo, Fit P0 Z Φ k X Y W → PS X (.Assign [tg] e p) (tS Z Fo W (evT Φ a))
theorem sndT_zero : SndT P0 Z Φ k 0 := by
  refine ⟨fun Y s a h => ?_, fun Y s a h => ?_, fun Y tg e p a h => ?_⟩
  · simp only [cSt] at h; cases h
  · simp only [cSs] at h; cases h
  · simp only [cAs] at h; cases h
theorem snd_ss (T : SndT P0 Z Φ k n) : ∀ Y s a, cSs P0 Y (n + 1) s = some a → ∀ X W Fo, Fit P0 Z Φ k X Y W → Top X W → PSs X s (tS Z Fo W (evTs Φ a)) := by
  intro Y s a h X W Fo F hp
  cases s with
  | nil => simp only [cSs] at h; cases h; exact ds_nil
  | cons s r =>
    simp only [cSs] at h
    obtain ⟨x, h1, h⟩ := bnd h
    obtain ⟨y, h2, rfl⟩ := mpd h
    exact ds_cons (T.st Y s x h1 X W Fo F hp) (T.ss Y r y h2 X W Fo F hp)
theorem snd_st (T : SndT P0 Z Φ k n) : ∀ Y s a, cSt P0 Y (n + 1) s = some a → ∀ X W Fo, Fit P0 Z Φ k X Y W → Top X W → PS X s (tS Z Fo W (evT Φ a)) := by
  have S := snd_all (P0 := P0) (Z := Z) (Φ := Φ) (k := k)
  intro Y s a h X W Fo F hp
  simp only [cSt] at h
  split at h
  · cases h; exact ds_pass
  · cases h; exact ds_break
  · cases h; exact ds_cont
  · obtain ⟨x, h1, rfl⟩ := mpd h
    exact ds_ret (pe_val ((S n).e Y _ x h1 X W Fo F))
  · cases h; exact ds_retN
  · split at h
    · cases h; exact ds_doc
    · replace h := ifs' h
      obtain ⟨c, h⟩ := h
      obtain ⟨x, h1, rfl⟩ := mpd h
      exact ds_expr (pe_val ((S n).e Y _ x h1 X W Fo F)) (sw_no c)
  · exact T.as Y _ _ _ a h X W Fo F
  · obtain ⟨x, h1, h⟩ := bnd h
    obtain ⟨y, h2, h⟩ := bnd h
    obtain ⟨z, h3, rfl⟩ := mpd h
    exact ds_if ((S n).b Y _ x h1 X W Fo F) (T.ss Y _ y h2 X W Fo F hp) (T.ss Y _ z h3 X W Fo F hp)
  · replace h := ifs' h
    obtain ⟨c, h⟩ := h
    obtain ⟨x, h1, h⟩ := bnd h
    obtain ⟨y, h2, h⟩ := bnd h
    obtain ⟨z, h3, rfl⟩ := mpd h
    exact ds_for hp.own F.calm ((S n).s Y _ _ x h1 X W Fo F) (((S n).t Y _ y h2).1 X W Fo F) (T.ss Y _ z h3 X W Fo F hp) (fold_plain c)
  · obtain ⟨x, h1, h⟩ := bnd h
    obtain ⟨y, h2, rfl⟩ := mpd h
    exact ds_while hp.own ((S n).b Y _ x h1 X W Fo F) (T.ss Y _ y h2 X W Fo F hp)
  · split at h
    · rename_i c
      rw [Bool.and_eq_true, Bool.and_eq_true, decide_eq_true_eq] at c
      cases h
      obtain ⟨C, m1, M⟩ := F.st.ex _ c.1.1
      exact ds_raise F.K F.mg F.calm hp.tk m1 M (F.gl c.1.2) (okNm_debug c.2)
    · cases h; exact ds_stuck
  · split at h
    · rename_i f e1
      split at h
      · rename_i c
        rw [Bool.and_eq_true, Bool.and_eq_true] at c
        obtain ⟨y, h1, rfl⟩ := mpd h
        obtain ⟨C, m1, M, _⟩ := F.st.exi _ _ (lookup_mem' e1)
        exact ds_raf F.mg F.calm (F.rm.mono (by have := F.st.low; omega)) hp.tk m1 M (F.gl c.1.1) (okNm_debug c.1.2) (by rw [star_cons c.2]) (pe_val ((S n).e Y _ y h1 X W Fo F))
      · cases h; exact ds_stuck
    · cases h; exact ds_stuck
  · cases h; exact ds_stuck
  · obtain ⟨c, h⟩ := ifs' h
    simp only [Bool.and_eq_true, decide_eq_true_eq] at c
    obtain ⟨⟨⟨⟨⟨⟨c1, c2⟩, c3⟩, c4⟩, c5⟩, c6⟩, c7⟩ := c
    obtain ⟨i, h1, h⟩ := bnd h
    obtain ⟨j, h2, h⟩ := bnd h
    obtain ⟨y, h3, rfl⟩ := mpd h
    subst c1
    obtain ⟨cv, hcv, ht⟩ := F.st.tbl_at (by simpa using c5)
    have li := lclB_spec c6
    have lj := lclB_spec c7
    rw [← F.sc] at li lj
    have Ni := idx_spec h1
    have Nj := idx_spec h2
    rw [← F.N] at Ni Nj
    refine ds_try (c := cv) F.K hp.stk hp.frm hp.ex F.nd Ni li ?_ hp.tk (fun cn k e C hm => ?_) (fun W' pn xe tk own => T.ss Y _ y h3 _ W' Fo (F.tr pn xe tk) ⟨own, tk, hp.stk, hp.frm, hp.ex⟩) (fun a pn => ?_)
    · refine ⟨F.gl c4, okNm_debug c2, ?_⟩
      rcases hcv with ⟨C, rfl, hm⟩ | ⟨rfl, rfl, hm⟩
      · exact .inl hm
      · exact .inr ⟨hm, PyProof.Rows.Boot.«ValueError», by decide +kernel⟩
    · obtain ⟨D, q1, q2, q3, q4⟩ := ht cn k e
      rw [F.mg, hm] at q1
      cases q1
      exact q4
    · refine pss_imp (pss_cons (ps_set (X := X.suite a pn) F.nd Nj (.inl lj) (pe_var Ni (.inl li) (okNm_debug c3) ?_) ?_ (.inr lj)) pss_nil) fun D σ H ⟨v, e, q⟩ => ⟨v, e, q⟩
      · exact okNm_cd c3
      · rfl
  · obtain ⟨c, h⟩ := ifs' h
    simp only [Bool.and_eq_true] at c
    obtain ⟨⟨c2, c4⟩, c5⟩ := c
    obtain ⟨d, h1, h⟩ := bnd h
    obtain ⟨c6, h⟩ := ifs' h
    obtain ⟨y, h3, rfl⟩ := mpd h
    obtain ⟨v, hv⟩ := Option.isSome_iff_exists.mp c6
    obtain ⟨cv, hcv, ht⟩ := F.st.tbl_at (by simpa using c5)
    refine ds_tro (c := cv) hp.stk hp.frm (F.names hcv c4 c2) hp.tk hv F.K (F.exm ht) (fun W' pn xe tk own => T.ss Y _ y h3 _ W' Fo (F.tr pn xe tk) ⟨own, tk, hp.stk, hp.frm, hp.ex⟩) (fun a pn => ?_)
    exact pss_imp (pss_cons (ps_ret (X := X.suite a pn) (sui_con h1 hv)) pss_nil) fun D σ H q => q
  · obtain ⟨c, h⟩ := ifs' h
    simp only [Bool.and_eq_true] at c
    obtain ⟨⟨⟨c2, c4⟩, c5⟩, c7⟩ := c
    obtain ⟨j, h2, h⟩ := bnd h
    obtain ⟨d, h1, h⟩ := bnd h
    obtain ⟨c6, h⟩ := ifs' h
    obtain ⟨y, h3, rfl⟩ := mpd h
    obtain ⟨v, hv⟩ := Option.isSome_iff_exists.mp c6
    obtain ⟨cv, hcv, ht⟩ := F.st.tbl_at (by simpa using c5)
    have lj := lclB_spec c7
    rw [← F.sc] at lj
    have Nj := idx_spec h2
    rw [← F.N] at Nj
    refine ds_tro (c := cv) hp.stk hp.frm (F.names hcv c4 c2) hp.tk hv F.K (F.exm ht) (fun W' pn xe tk own => T.ss Y _ y h3 _ W' Fo (F.tr pn xe tk) ⟨own, tk, hp.stk, hp.frm, hp.ex⟩) (fun a pn => ?_)
    exact pss_imp (pss_cons (ps_set (X := X.suite a pn) F.nd Nj (.inl lj) (sui_con h1 hv) (by rfl) (.inr lj)) pss_nil) fun D σ H q => q
  · split at h
    · split at h
      · rename_i i ht
        obtain ⟨x, h1, rfl⟩ := mpd h
        obtain ⟨y, q, ey, e1, lb, hf⟩ := nm_at ht
        cases ey
        exact ds_aug F.nd (by rw [F.N]; exact idx_spec e1) (loc_of F lb) (pe_val ((S n).e Y _ x h1 X W Fo F)) (hf.imp (F.fc _) fun q => by rw [F.sc]; exact q)
      · cases h
    · replace h := ifs' h
      obtain ⟨c, h⟩ := h
      obtain ⟨x, h1, h⟩ := bnd h
      obtain ⟨y, h2, rfl⟩ := mpd h
      exact de_augf F.K (of_decide_eq_true c) ((S n).e Y _ x h1 X W Fo F) (pe_val ((S n).e Y _ y h2 X W Fo F))
    · cases h
  · cases h
theorem bop_at {Y : Blk} {ea eb : Expr} {op : Operator} {p : Pos} {o : BOp} {x y : Ex} (h : cN P0 Y n (.BinOp ea op eb p) = some (.bop o x y)) : All P0 Z Φ k (fun X _ W Fo => PE X (.BinOp ea op eb p) (tE Z Fo W (opd2 (x.opd (evE Φ x)) (y.opd (evE Φ y)) (bopM o))) ∧ PE X (.BinOp ea op eb p) (tN Z Fo W (opd2 (x.opd (evE Φ x)) (y.opd (evE Φ y)) (bopN o)))) Y := by
  have S := snd_all (P0 := P0) (Z := Z) (Φ := Φ) (k := k)
  intro X W Fo F
  cases n with
  | zero => simp only [cN] at h; cases h
  | succ n =>
    simp only [cN] at h
    obtain ⟨b, h1, h⟩ := bnd h
    obtain ⟨x', h2, h⟩ := bnd h
    obtain ⟨y', h3, h⟩ := mpd h
    cases h
    have hx := (S n).e Y _ x h2 X W Fo F
    have hy := (S n).e Y _ y h3 X W Fo F
    have q1 := de_bop (pos := p) F.K o hx hy
    have q2 := de_bopN (pos := p) o hx hy
    rw [bopOf_spec h1] at q1 q2
    exact ⟨q1, q2⟩
theorem sl_at {Y : Blk} {ea sl : Expr} {p : Pos} {x : Ex} {lo hi : Px} (h : cN P0 Y n (.Subscript ea sl p) = some (.sl x lo hi)) : All P0 Z Φ k (fun X _ W Fo => PE X (.Subscript ea sl p) (tE Z Fo W (slM (x.opd (evE Φ x)) (evP Φ lo) (evP Φ hi) slDM)) ∧ PE X (.Subscript ea sl p) (tN Z Fo W (slM (x.opd (evE Φ x)) (evP Φ lo) (evP Φ hi) slNM))) Y := by
  have S := snd_all (P0 := P0) (Z := Z) (Φ := Φ) (k := k)
  intro X W Fo F
  cases n with
  | zero => simp only [cN] at h; cases h
  | succ n =>
    simp only [cN] at h
    split at h
    · obtain ⟨x', h1, h⟩ := bnd h
      obtain ⟨lo', h2, h⟩ := bnd h
      obtain ⟨hi', h3, h⟩ := mpd h
      cases h
      exact ⟨de_sl F.K ((S n).e Y _ x h1 X W Fo F) ((S n).px Y _ lo h2 X W Fo F) ((S n).px Y _ hi h3 X W Fo F), de_slN ((S n).e Y _ x h1 X W Fo F) ((S n).px Y _ lo h2 X W Fo F) ((S n).px Y _ hi h3 X W Fo F)⟩
    · obtain ⟨x', h1, h⟩ := mpd h
      cases h
    · cases h
theorem rv_at {Y : Blk} {ea sl : Expr} {p : Pos} {x : Ex} (h : cN P0 Y n (.Subscript ea sl p) = some (.rev x)) : All P0 Z Φ k (fun X _ W Fo => PE X (.Subscript ea sl p) (tE Z Fo W (opd1 (x.opd (evE Φ x)) revD)) ∧ PE X (.Subscript ea sl p) (tN Z Fo W (opd1 (x.opd (evE Φ x)) revM))) Y := by
  have S := snd_all (P0 := P0) (Z := Z) (Φ := Φ) (k := k)
  intro X W Fo F
  cases n with
  | zero => simp only [cN] at h; cases h
  | succ n =>
    simp only [cN] at h
    split at h
    · obtain ⟨x', h1, h⟩ := bnd h
      obtain ⟨lo', h2, h⟩ := bnd h
      obtain ⟨hi', h3, h⟩ := mpd h
      cases h
    · obtain ⟨x', h1, h⟩ := mpd h
      cases h
      exact ⟨de_revT F.K ((S n).e Y _ x h1 X W Fo F), de_rev F.K ((S n).e Y _ x h1 X W Fo F)⟩
    · cases h
theorem st_cB {env : Env} {tg e : Expr} (h : ∀ ts p k es q j, tg = .Tuple ts k p → e ≠ .Tuple es j q) (h2 : ∀ es p, tg ≠ .List es p) : swappedStores [tg] e env = pure none := by
  cases tg with
  | Tuple ts j p => cases e <;> first | rfl | exact absurd rfl (h _ _ _ _ _ _ rfl)
  | List ts p => exact absurd rfl (h2 _ _)
  | _ => cases e <;> rfl
theorem locIx_spec {Y : Blk} {x : Str} {i : Nat} (h : locIx Y x = some i) : Y.N[i]? = some x ∧ Y.sc.names.lookup x = some .local := by
  unfold locIx at h
  split at h
  · rename_i c; exact ⟨idx_spec h, c⟩
  · cases h
theorem namesIn_two {ts : List Expr} {x y : Str} (h : namesIn ts = some [x, y]) : ∃ px py, ts = [.Name x px, .Name y py] := by
  match ts, h with
  | [], h => cases h
  | [.Name a p], h => simp [namesIn] at h
  | .Name a p :: .Name b q :: r, h =>
    simp only [namesIn, Option.map_map] at h
    obtain ⟨l, e1, e2⟩ := Option.map_eq_some_iff.mp h
    simp at e2
    obtain ⟨rfl, rfl, rfl⟩ := e2
    cases r with
    | nil => exact ⟨p, q, rfl⟩
    | cons a r =>
      cases a <;> simp [namesIn] at e1
theorem namesIn_three {ts : List Expr} {x y z : Str} (h : namesIn ts = some [x, y, z]) : ∃ px py pz, ts = [.Name x px, .Name y py, .Name z pz] := by
  match ts, h with
  | [], h => cases h
  | .Name a p :: r, h =>
    simp only [namesIn] at h
    obtain ⟨l, e1, e2⟩ := Option.map_eq_some_iff.mp h
    simp at e2
    obtain ⟨rfl, rfl⟩ := e2
    obtain ⟨q, s, rfl⟩ := namesIn_two e1
    exact ⟨p, q, s, rfl⟩
theorem par_ok {Y : Blk} {ts vs : List Expr} {xs : List Str} {is : List Nat} {r : Exs} {kt k2 : Nat} {pt pt2 p : Pos} (h1 : swB Y.sc ts vs = some (some xs)) (h2 : namesIn ts = some xs) (h3 : vs.length = xs.length) (h4 : parOf Y xs = some is) (h5 : cX P0 Y n vs = some r) {X : Cx} {W : WX} {Fo : Hp} (F : Fit P0 Z Φ k X Y W) :
    PS X (.Assign [.Tuple ts kt pt] (.Tuple vs k2 pt2) p) (tS Z Fo W (parM is (evX Φ r))) := by
  have S := snd_all (P0 := P0) (Z := Z) (Φ := Φ) (k := k)
  have kd : X.env.scope.kind = .function := by rw [F.sc]; exact F.kd
  have sw := swB_ok (env := X.env) (kt := kt) (k2 := k2) (pt := pt) (pt2 := pt2) kd (by rw [F.sc]; exact h1)
  obtain ⟨a2, b2, l2⟩ := (S n).x Y vs r h5
  have A := a2 X W Fo F
  match xs, h4 with
  | [x, y], h4 =>
    simp only [parOf] at h4
    obtain ⟨i, e1, h4⟩ := bnd h4
    obtain ⟨j, e2, h4⟩ := bnd h4
    split at h4
    · rename_i c
      cases h4
      obtain ⟨px, py, rfl⟩ := namesIn_two h2
      obtain ⟨n1, k1⟩ := locIx_spec e1
      obtain ⟨n2, k2'⟩ := locIx_spec e2
      match vs, h3, A, sw, l2 with
      | [a, b], _, A, sw, l2 => exact ds_par2 F.calm F.nd (by rw [F.N]; exact n1) (by rw [F.N]; exact n2) c (by rw [F.sc]; exact k1) (by rw [F.sc]; exact k2') A l2 sw rfl
    · cases h4
  | [x, y, z], h4 =>
    simp only [parOf] at h4
    obtain ⟨i, e1, h4⟩ := bnd h4
    obtain ⟨j, e2, h4⟩ := bnd h4
    obtain ⟨l, e3, h4⟩ := bnd h4
    split at h4
    · rename_i c
      cases h4
      obtain ⟨px, py, pz, rfl⟩ := namesIn_three h2
      obtain ⟨n1, k1⟩ := locIx_spec e1
      obtain ⟨n2, k2'⟩ := locIx_spec e2
      obtain ⟨n3, k3⟩ := locIx_spec e3
      match vs, h3, A, sw, l2 with
      | [a, b, d], _, A, sw, l2 => exact ds_par3 F.calm F.nd (by rw [F.N]; exact n1) (by rw [F.N]; exact n2) (by rw [F.N]; exact n3) c.1 c.2.1 c.2.2 (by rw [F.sc]; exact k1) (by rw [F.sc]; exact k2') (by rw [F.sc]; exact k3) A l2 sw rfl
    · cases h4
  | [], h4 => cases h4
  | [_], h4 => cases h4
  | _ :: _ :: _ :: _ :: _, h4 => cases h4
theorem ats_each {env : Env} {x : Str} : ∀ {ts : List Expr} {fs : List Str}, atsOf x ts = some fs → (assignEach ts env).length = fs.length ∧ (assignEach ts env).findIdx? (·.1) = none
  | [], fs, h => by cases h; exact ⟨rfl, rfl⟩
  | t :: ts, fs, h => by
    obtain ⟨p, f, q, fs', rfl, rfl, h1⟩ := atsOf_cons h
    obtain ⟨i1, i2⟩ := ats_each (env := env) h1
    have e : assignEach (.Attribute (.Name x p) f q :: ts) env = (false, assign (.Attribute (.Name x p) f q) env) :: assignEach ts env := rfl
    rw [e]
    refine ⟨by rw [List.length_cons, List.length_cons, i1], ?_⟩
    rw [List.findIdx?_cons, i2]
    rfl
theorem snd_as : ∀ Y tg e p a, cAs P0 Y (n + 1) tg e p = some a → ∀ X W Fo, Fit P0 Z Φ k X Y W → PS X (.Assign [tg] e p) (tS Z Fo W (evT Φ a)) := by
  have S := snd_all (P0 := P0) (Z := Z) (Φ := Φ) (k := k)
  intro Y tg e p a h X W Fo F
  have kd : X.env.scope.kind = .function := by rw [F.sc]; exact F.kd
  have u1 : X.A.units + 1 < cLine := by have := F.units; omega
  simp only [cAs] at h
  split at h
  · -- a[k] = e
    rename_i ea ek sp
    replace h := ifs' h
    obtain ⟨c, h⟩ := h
    obtain ⟨x, h1, h⟩ := bnd h
    obtain ⟨y, h2, h⟩ := bnd h
    obtain ⟨z, h3, rfl⟩ := mpd h
    exact ds_seti u1 ((S n).e Y _ x h1 X W Fo F) (pe_val ((S n).e Y _ y h2 X W Fo F)) (pe_val ((S n).e Y _ z h3 X W Fo F)) c (sws_tgt fun _ _ z => nomatch z)
  · -- a.f = e
    rename_i ea f ap
    replace h := ifs' h
    obtain ⟨c, h⟩ := h
    obtain ⟨x, h1, h⟩ := bnd h
    obtain ⟨y, h2, rfl⟩ := mpd h
    exact de_setf F.K (of_decide_eq_true c) ((S n).e Y _ x h1 X W Fo F) (pe_val ((S n).e Y _ y h2 X W Fo F)) (sws_tgt (tg := .Attribute ea f ap) (l := p.line) (env := X.env) fun _ _ z => nomatch z)
  · -- tuples
    rename_i ts kt pt
    have nl : ∀ es p, Expr.Tuple ts kt pt ≠ .List es p := fun _ _ z => nomatch z
    have val : ∀ t b, cT Y n (.Tuple ts kt pt) = some t → (cE P0 Y n e).map (fun a => Sx.asg t a) = some b → swappedStores [.Tuple ts kt pt] e X.env = pure none → PS X (.Assign [.Tuple ts kt pt] e p) (tS Z Fo W (evT Φ b)) := fun t b ht hb hw => by
      obtain ⟨x, h1, rfl⟩ := mpd hb
      exact ds_asg (pe_val ((S n).e Y e x h1 X W Fo F)) (((S n).t Y _ t ht).1 X W Fo F) (sws_tgt fun _ _ z => nomatch z) hw (each_one rfl)
    split at h
    · rename_i x xp f fp r
      replace h := ifs' h
      obtain ⟨c, h⟩ := h
      split at h
      · rename_i fs i e1 e2
        replace h := ifs' h
        obtain ⟨c2, h⟩ := h
        obtain ⟨y, h1, rfl⟩ := mpd h
        rw [List.all_eq_true] at c2
        obtain ⟨n1, n2⟩ := ats_each (env := X.env) e1
        refine ds_unp F.K F.calm (fun p => ?_) (fun f hf => of_decide_eq_true (c2 f hf)) e1 n1 n2 (pe_val ((S n).e Y _ y h1 X W Fo F)) (sws_tgt fun _ _ z => nomatch z) (st_cB (fun _ _ _ _ _ _ _ z => by rw [z] at c; cases c) nl)
        exact name_ok (a := .v i) (p := p) e2 X W Fo F
      · cases h
    · split at h
      · rename_i vs k2 pt2
        split at h
        · rename_i xs e1
          replace h := ifs' h
          obtain ⟨c, h⟩ := h
          simp only [Bool.and_eq_true, decide_eq_true_eq] at c
          obtain ⟨is, h1, h⟩ := bnd h
          obtain ⟨r, h2, rfl⟩ := mpd h
          exact par_ok e1 c.1 c.2 h1 h2 F
        · rename_i e1
          obtain ⟨t, h1, h⟩ := bnd h
          exact val t a h1 h (swB_ok kd (by rw [F.sc]; exact e1))
        · cases h
      · rename_i hne
        obtain ⟨t, h1, h⟩ := bnd h
        exact val t a h1 h (st_cB (fun _ _ _ es q j _ z => hne es j q z) nl)
  · -- a name
    rename_i y py
    have nl : ∀ es p, Expr.Name y py ≠ .List es p := fun _ _ z => nomatch z
    have nt : notTuple (.Name y py) = true := rfl
    cases ht : cT Y n (.Name y py) with
    | none => simp only [ht] at h; cases h
    | some t =>
      simp only [ht] at h
      have val : notComp e = true → ∀ b, (cE P0 Y n e).map (fun a => Sx.asg t a) = some b → PS X (.Assign [.Name y py] e p) (tS Z Fo W (evT Φ b)) := fun nc b hb => by
        obtain ⟨x, h1, rfl⟩ := mpd hb
        exact ds_asg (pe_val ((S n).e Y e x h1 X W Fo F)) (((S n).t Y _ t ht).1 X W Fo F) (sws_no nc) (st_no (.inl nt) nl) (each_one rfl)
      by_cases al : inPos Y.al e.pos = true
      · rw [if_pos al] at h
        by_cases nc : notComp e = true
        · rw [if_pos nc] at h
          exact val nc a h
        · rw [if_neg nc] at h
          split at h
          · rename_i i e1 gs scope cp
            obtain ⟨nx, en, h⟩ := bnd h
            obtain ⟨x, q, ex, e2, lb, hf⟩ := nm_at ht
            cases ex
            replace h := ifs' h
            obtain ⟨c, h⟩ := h
            cases h
            simp only [Bool.and_eq_true, Bool.not_eq_true'] at c
            exact (lc_set S en F e2 (of_decide_eq_true c.1.1) c.1.2 c.2).2
          · cases h
      · rw [if_neg al] at h
        by_cases nc : notComp e = true
        · rw [if_pos nc] at h
          have own : ∀ i nx, t = .nm i → cN P0 Y n e = some nx → PS X (.Assign [.Name y py] e p) (tS Z Fo W (evT Φ (.own i nx))) := fun i nx et en => by
            subst et
            obtain ⟨x, q, ex, e1, lb, hf⟩ := nm_at ht
            cases ex
            exact ds_own (ps_asg ((S n).nw Y e nx en X W Fo F) (nm_pg F e1 lb hf) (sws_no nc) (st_no (.inl nt) nl) rfl)
          split at h
          · rename_i i nx en
            split at h
            · rename_i ea op eb bp
              split at h
              · rename_i o x y
                cases h
                obtain ⟨q1, q2⟩ := bop_at en X W Fo F
                obtain ⟨xn, q, ex, e1, lb, hf⟩ := nm_at ht
                cases ex
                exact ps_any (ds_own (ps_asg q2 (nm_pg F e1 lb hf) (sws_no nc) (st_no (.inl nt) nl) rfl)) (ds_asg q1 (dg_nm (nm_pg F e1 lb hf)) (sws_no nc) (st_no (.inl nt) nl) rfl) (bopS_or i o _ _)
              · cases h
            · rename_i ea sl bp
              split at h
              · rename_i x lo hi
                cases h
                obtain ⟨q1, q2⟩ := sl_at en X W Fo F
                obtain ⟨xn, q, ex, e1, lb, hf⟩ := nm_at ht
                cases ex
                exact ps_any (ds_own (ps_asg q2 (nm_pg F e1 lb hf) (sws_no nc) (st_no (.inl nt) nl) rfl)) (ds_asg q1 (dg_nm (nm_pg F e1 lb hf)) (sws_no nc) (st_no (.inl nt) nl) rfl) (slS_or i _ _ _)
              · rename_i x
                cases h
                obtain ⟨q1, q2⟩ := rv_at en X W Fo F
                obtain ⟨xn, q, ex, e1, lb, hf⟩ := nm_at ht
                cases ex
                exact ps_any (ds_own (ps_asg q2 (nm_pg F e1 lb hf) (sws_no nc) (st_no (.inl nt) nl) rfl)) (ds_asg q1 (dg_nm (nm_pg F e1 lb hf)) (sws_no nc) (st_no (.inl nt) nl) rfl) (revS_or i _)
              · cases h
                exact own i _ rfl en
            · cases h
              exact own i nx rfl en
          · exact val nc a h
        · rw [if_neg nc] at h
          split at h
          · rename_i i e1 gs scope cp
            obtain ⟨nx, en, h⟩ := bnd h
            obtain ⟨x, q, ex, e2, lb, hf⟩ := nm_at ht
            cases ex
            split at h
            · rename_i c
              cases h
              simp only [Bool.and_eq_true, Bool.not_eq_true'] at c
              exact (lc_set S en F e2 (of_decide_eq_true c.1.1) c.1.2 c.2).1
            · split at h
              · rename_i c
                cases h
                have ne : X.env.scope.names.lookup y ≠ some .local := fun z => by
                  rw [F.sc] at z
                  rw [Bool.not_eq_true', decide_eq_false_iff_not] at c
                  exact c z
                exact ds_own (ps_asg ((S n).nw Y _ nx en X W Fo F) (nm_pg F e2 lb hf) (sw_cell (l := p.line) ne) (st_no (.inl rfl) nl) rfl)
              · cases h
          · cases h
  · cases h
theorem sndT_all : ∀ n, SndT P0 Z Φ k n
  | 0 => sndT_zero
  | n + 1 => ⟨snd_st (sndT_all n), snd_ss (sndT_all n), snd_as⟩
end
end LB

namespace LB
open PySem L2 PyProof.Rows PySem.Spec

/-! ### the module's constants, looked at in the written part -/
mutual
def dcB (K : PySem.W.Frag) : Nat → Value → D → Bool
  | 0, _, _ => false
  | n + 1, u, d => match u, d with
    | .none, .non => true
    | .bool b, .bl c => decide (b = c)
    | .int i _, .int j => decide (i = j)
    | .str x _, .str y => decide (x = y)
    | .ref a, .ktp ds => (match K.lookup a with
      | some ⟨.type c, _, .seq its _, _⟩ => decide (c = "tuple") && decide (its.size ≤ sizeLine) && dcsB K n its.toList ds
      | _ => false)
    | _, _ => false
def dcsB (K : PySem.W.Frag) : Nat → List Value → List D → Bool
  | 0, _, _ => false
  | n + 1, us, ds => match us, ds with
    | [], [] => true
    | u :: us, d :: ds => dcB K n u d && dcsB K n us ds
    | _, _ => false
end
def esB (K : PySem.W.Frag) : List DictEntry → List (Str × D) → Bool
  | [], [] => true
  | ⟨_, .str x _, u⟩ :: es, (y, d) :: r => decide (x = y) && dcB K 9 u d && esB K es r
  | _, _ => false
def kdB (K : PySem.W.Frag) (a : Addr) (kvs : List (Str × D)) : Bool := match K.lookup a with
  | some ⟨_, _, .dict es _, _⟩ => esB K es.toList kvs
  | _ => false
/-- a global of the module is a constant -/
def mcB (K : PySem.W.Frag) (x : Str) (d : D) : Bool := match PySem.W.nsIn K mainGlobals x with
  | some (some u) => dcB K 9 u d
  | _ => false
/-- no list among the written things -/
def noLst (K : PySem.W.Frag) : Bool := K.all fun p => match p.2.cls with
  | .type c => !decide (c = "list")
  | _ => true
theorem noLst_ok {K : PySem.W.Frag} (h : noLst K = true) {a : Addr} {o : Obj} (e : K.lookup a = some o) : o.cls ≠ .type "list" := fun z => by
  have q := List.all_eq_true.mp h (a, o) (He.lookup_mem e)
  simp only [z, decide_true, Bool.not_true] at q
  cases q
section
variable {K : PySem.W.Frag} {w : World} {mg : Str → Option Value}
mutual
theorem dcB_ok : ∀ (n : Nat) (u : Value) (d : D), dcB K n u d = true → ∃ v, RelV v u ∧ ∀ G μ N, DV ⟨K, w, mg⟩ G μ N d v
  | 0, _, _, h => by simp only [dcB] at h; cases h
  | n + 1, u, d, h => by
    simp only [dcB] at h
    split at h
    · exact ⟨.non, rfl, fun _ _ _ => .non⟩
    · have e := of_decide_eq_true h; subst e; exact ⟨.bl _, rfl, fun _ _ _ => .bl _⟩
    · have e := of_decide_eq_true h; subst e; exact ⟨.int _, ⟨_, rfl⟩, fun _ _ _ => .int _⟩
    · have e := of_decide_eq_true h; subst e; exact ⟨.str _, ⟨_, rfl⟩, fun _ _ _ => .str _⟩
    · rename_i a ds
      split at h
      · rename_i c od its m sl e1
        simp only [Bool.and_eq_true, decide_eq_true_eq] at h
        obtain ⟨⟨h1, h2⟩, h3⟩ := h
        subst h1
        obtain ⟨vs, rv, rd⟩ := dcsB_ok n its.toList ds h3
        exact ⟨.ref a, rfl, fun G μ N => .ktp (.inr ⟨_, its, m, e1, rfl, rfl, h2, rv⟩) (rd G μ N)⟩
      · cases h
    · cases h
theorem dcsB_ok : ∀ (n : Nat) (us : List Value) (ds : List D), dcsB K n us ds = true → ∃ vs, Vals vs us ∧ ∀ G μ N, DVs ⟨K, w, mg⟩ G μ N ds vs
  | 0, _, _, h => by simp only [dcsB] at h; cases h
  | n + 1, us, ds, h => by
    simp only [dcsB] at h
    split at h
    · exact ⟨[], .nil, fun _ _ _ => .nil⟩
    · rename_i u us d ds
      rw [Bool.and_eq_true] at h
      obtain ⟨v, rv, rd⟩ := dcB_ok n u d h.1
      obtain ⟨vs, rvs, rds⟩ := dcsB_ok n us ds h.2
      exact ⟨v :: vs, .cons rv rvs, fun G μ N => .cons (rd G μ N) (rds G μ N)⟩
    · cases h
end
theorem esB_ok : ∀ (es : List DictEntry) (kvs : List (Str × D)), esB K es kvs = true → ∀ G μ N, DVe ⟨K, w, mg⟩ G μ N kvs es
  | [], [], _ => fun _ _ _ => .nil
  | ⟨h, .str x t, u⟩ :: es, (y, d) :: r, e => fun G μ N => by
    simp only [esB, Bool.and_eq_true, decide_eq_true_eq] at e
    obtain ⟨⟨rfl, e2⟩, e3⟩ := e
    obtain ⟨v, rv, rd⟩ := dcB_ok (w := w) (mg := mg) 9 u d e2
    exact .cons rv (rd G μ N) (esB_ok es r e3 G μ N)
  | [], _ :: _, e => by simp [esB] at e
  | ⟨_, k, _⟩ :: _, [], e => by cases k <;> simp [esB] at e
  | ⟨h, .none, u⟩ :: es, (y, d) :: r, e => by simp [esB] at e
  | ⟨h, .bool _, u⟩ :: es, (y, d) :: r, e => by simp [esB] at e
  | ⟨h, .int _ _, u⟩ :: es, (y, d) :: r, e => by simp [esB] at e
  | ⟨h, .float _ _, u⟩ :: es, (y, d) :: r, e => by simp [esB] at e
  | ⟨h, .ref _, u⟩ :: es, (y, d) :: r, e => by simp [esB] at e
  | ⟨h, .bytes _ _, u⟩ :: es, (y, d) :: r, e => by simp [esB] at e
  | ⟨h, .type _, u⟩ :: es, (y, d) :: r, e => by simp [esB] at e
  | ⟨h, .builtin _, u⟩ :: es, (y, d) :: r, e => by simp [esB] at e
  | ⟨h, .ellipsis, u⟩ :: es, (y, d) :: r, e => by simp [esB] at e
  | ⟨h, .notImplemented, u⟩ :: es, (y, d) :: r, e => by simp [esB] at e
end

/-! ### the defs, level by level -/
structure DefR where
  x : Str
  nm : Str
  ql : Str
  cl : Option (Str × Str)
  ps : List Str
  N : List Str
  ar : Arguments
  body : List Stmt
  scope : Scope
  b : Sxs
  keep : List Nat
  al : List (Nat × Nat)
  tk : List (Nat × Nat)
def noF : Fn := fun _ => Mo.no
def lev (ds : List DefR) : Nat → Str → Fn
  | 0, _ => noF
  | k + 1, x => match ds.find? fun d => decide (d.x = x) with
    | some d => bodyF d.N.length (evTs (lev ds k) d.b)
    | none => noF
def fnsOf (ds : List DefR) : List (Str × Nat) := ds.filterMap fun d => match d.cl with
  | none => some (d.x, d.ps.length)
  | some _ => none
def mtsOf (ds : List DefR) : List (Str × Str × Str × Nat) := ds.filterMap fun d => match d.cl with
  | none => none
  | some (c, m) => some (c, m, d.x, d.ps.length - 1)
def clsR (ds : List DefR) : List (Str × Str × Nat) := ds.filterMap fun d => match d.cl with
  | none => none
  | some (c, m) => if m = "__init__" then some (c, d.x, d.ps.length - 1) else none
/-- a def's text has the plain form d.b -/
structure DefR.Ok (P0 : Prg) (d : DefR) : Prop where
  n : ∃ n, cSs P0 ⟨d.N, d.scope, fun _ => true, d.keep, d.al, d.tk⟩ n d.body = some d.b
  sc : FnScope d.N d.ps d.scope
  pos : d.cl.isSome = true → d.ps ≠ []
/-- where a def stands -/
def DefR.At (d : DefR) (K : PySem.W.Frag) (mg : Str → Option Value) (f : Addr) : Prop := match d.cl with
  | none => mg d.x = some (.ref f)
  | some (c, m) => ∃ C, mg c = some (.ref C) ∧ InsOk K C ∧ Meth K C m f ∧ (m = "__init__" → Mk K C f)
section
variable {P : Program} {w : World} {K : PySem.W.Frag} {mg : Str → Option Value} {base : Heap} {P0 : Prg} {ds : List DefR}
structure LevH (P0 : Prg) (ds : List DefR) (K : PySem.W.Frag) (w : World) (mg : Str → Option Value) : Prop where
  free : ∀ x ∈ P0.free, mg x = none
  cs : ∀ x d, P0.cs.lookup x = some d → ∃ v u, mg x = some u ∧ RelV v u ∧ ∀ G μ N, DV ⟨K, w, mg⟩ G μ N d v
  fns : P0.fns = fnsOf ds
  cls : P0.cls = clsR ds
  mts : P0.mts = mtsOf ds
  uniq : ∀ d ∈ ds, (ds.find? fun e => decide (e.x = d.x)) = some d
  ok : ∀ d ∈ ds, d.Ok P0
  ex : ∀ c ∈ P0.exs, ∃ C, mg c = some (.ref C) ∧ ExMk K C
  sub : ∀ c c' b, (c, c', b) ∈ P0.subs → SubAt K mg c c' b
  exi : ∀ c f, (c, f) ∈ P0.exi → ∃ C, mg c = some (.ref C) ∧ (∀ P base, ExIn P w K mg base C f) ∧ XfC K C
  defs : ∀ d ∈ ds, ∃ f fd, FunD K d.nm d.ql d.ar d.body d.scope [] [] f fd ∧ d.At K mg f ∧ Binds K fd d.ps []
/-- a def's promise at a level -/
def LevAt (P : Program) (w : World) (K : PySem.W.Frag) (mg : Str → Option Value) (base : Heap) (ds : List DefR) (k : Nat) (d : DefR) : Prop :=
  ∃ f fd, d.At K mg f ∧ PySem.W.keepIn K (.ref f) = true ∧ Binds K fd d.ps [] ∧ FnG P w K mg base (2 * (k + 1)) f fd d.ps (spF ⟨K, w, mg⟩ d.ps.length (lev ds k d.x))
theorem sit_of (L : LevH P0 ds K w mg) {k : Nat} (ih : ∀ d ∈ ds, LevAt P w K mg base ds k d) {X : Cx} (hp : X.prog = P) (hw : X.w = w) (hK : X.K = K) (hm : X.mg = mg) (hb : X.base = base) : Sit P0 ⟨K, w, mg⟩ (lev ds k) (2 * (k + 1)) X := by
  subst hp hw hK hm hb
  refine ⟨L.free, fun x n h => ?_, L.cs, fun x key n h => ?_, fun c m key n h => ?_, L.ex, L.sub, fun c f h => ?_, by omega⟩
  · rw [L.fns] at h
    obtain ⟨d, hd, e⟩ := List.mem_filterMap.mp (lookup_mem' h)
    cases ec : d.cl with
    | some _ => simp only [ec] at e; cases e
    | none =>
      simp only [ec] at e
      cases e
      obtain ⟨f, fd, a, kp, b, T⟩ := ih d hd
      unfold DefR.At at a
      simp only [ec] at a
      exact ⟨f, fd, d.ps, rfl, a, kp, b, T⟩
  · rw [L.cls] at h
    obtain ⟨d, hd, e⟩ := List.mem_filterMap.mp (lookup_mem' h)
    cases ec : d.cl with
    | none => simp only [ec] at e; cases e
    | some cm =>
      obtain ⟨c, m⟩ := cm
      simp only [ec] at e
      split at e
      · rename_i em
        cases e
        obtain ⟨f, fd, a, kp, b, T⟩ := ih d hd
        unfold DefR.At at a
        simp only [ec] at a
        obtain ⟨C, a1, a2, a3, a4⟩ := a
        have ln : d.ps.length = d.ps.length - 1 + 1 := by
          have := (L.ok d hd).pos (by rw [ec]; rfl)
          cases q : d.ps with
          | nil => exact absurd q this
          | cons _ _ => simp
        rw [ln] at T
        exact ⟨C, f, fd, d.ps, ln, a1, a2, a4 em, b, T⟩
      · cases e
  · rw [L.mts] at h
    obtain ⟨d, hd, e⟩ := List.mem_filterMap.mp h
    cases ec : d.cl with
    | none => simp only [ec] at e; cases e
    | some cm =>
      obtain ⟨c', m'⟩ := cm
      simp only [ec] at e
      cases e
      obtain ⟨f, fd, a, kp, b, T⟩ := ih d hd
      unfold DefR.At at a
      simp only [ec] at a
      obtain ⟨C, a1, a2, a3, a4⟩ := a
      have ln : d.ps.length = d.ps.length - 1 + 1 := by
        have := (L.ok d hd).pos (by rw [ec]; rfl)
        cases q : d.ps with
        | nil => exact absurd q this
        | cons _ _ => simp
      rw [ln] at T
      exact ⟨C, f, fd, d.ps, ln, a1, a2.cls, a3, b, T⟩
  · obtain ⟨C, h1, h2, h3⟩ := L.exi c f h
    exact ⟨C, h1, h2 _ _, h3⟩
theorem lev_body (L : LevH P0 ds K w mg) {k : Nat} (ih : ∀ d ∈ ds, LevAt P w K mg base ds k d) {d : DefR} (hd : d ∈ ds) {f : Addr} {fd : FuncData} (F : FunD K d.nm d.ql d.ar d.body d.scope [] [] f fd) :
    FnG P w K mg base (2 * (k + 1 + 1)) f fd d.ps (spF ⟨K, w, mg⟩ d.ps.length (lev ds (k + 1) d.x)) := by
  have le : lev ds (k + 1) d.x = bodyF d.N.length (evTs (lev ds k) d.b) := by
    show (match ds.find? fun e => decide (e.x = d.x) with | some d => bodyF d.N.length (evTs (lev ds k) d.b) | none => noF) = _
    rw [L.uniq d hd]
  rw [le]
  obtain ⟨nn, hc⟩ := (L.ok d hd).n
  have Sc := (L.ok d hd).sc
  obtain ⟨oc, od, dV, kV, doc, pm, an, cdv, ct, osl, rfl, lk, hcd, _, _⟩ := F.ex
  refine fn_at (k := 2 * (k + 1) + 1) ⟨K, w, mg⟩ lk hcd Sc fun A outer s H E Fo rm => ?_
  have fit : Fit P0 ⟨K, w, mg⟩ (lev ds k) (2 * (k + 1)) (cxOf (L2.CX P w) P w K mg base d.N d.ql d.scope f cdv A outer s H E) ⟨d.N, d.scope, fun _ => true, d.keep, d.al, d.tk⟩ (fun cls dd _ H => E cls dd H) :=
    ⟨sit_of L ih rfl rfl rfl rfl rfl, rfl, rfl, rfl, rfl, rm, Sc.nd, rfl, rfl, Sc.kind, fun _ _ => rfl, passAt (takes_of rfl rfl rfl rfl)⟩
  exact (sndT_all nn).ss _ _ _ hc _ _ Fo fit ⟨passes_of rfl, takes_of rfl rfl rfl rfl, rfl, rfl, rfl⟩
theorem lev_all (L : LevH P0 ds K w mg) : ∀ k, ∀ d ∈ ds, LevAt P w K mg base ds k d := by
  intro k
  induction k with
  | zero =>
    intro d hd
    obtain ⟨f, fd, F, a, b⟩ := L.defs d hd
    exact ⟨f, fd, a, F.kp, b, fun vs H Q E ⟨_, _, _, _, q, _⟩ => q, fun A outer s H args us vs Q E _ _ _ _ ⟨_, _, _, _, _, _, _, q⟩ => q.elim⟩
  | succ k ih =>
    intro d hd
    obtain ⟨f, fd, F, a, b⟩ := L.defs d hd
    exact ⟨f, fd, a, F.kp, b, lev_body L ih hd F⟩
theorem look_in {x : Str} {d : D} {l : List (Str × D)} (h : l.lookup x = some d) : (x, d) ∈ l := lookup_mem' h
end
section
variable {P : Program} {w : World} {K : PySem.W.Frag} {mg : Str → Option Value} {base : Heap} {P0 : Prg} {ds : List DefR}
/-! ### the law itself -/
theorem ints_vals : ∀ {vs : List Value} {ns : List Int}, IntsAre vs ns → Vals (ns.map V.int) vs
  | _, _, .nil => .nil
  | _, _, .cons n t h => .cons ⟨t, rfl⟩ (ints_vals h)
theorem ints_dvs {Z : Stc} {G : Hp} {μ : Nat → Addr} {N : Nat} : ∀ ns : List Int, DVs Z G μ N (ns.map .int) (ns.map V.int)
  | [] => .nil
  | i :: r => .cons (.int i) (ints_dvs r)
theorem lawG {mb : Str → Option Value} {k : Nat} {fa a : Addr} {fd : FuncData} {x : Str} {F : Fn} {s1 : Shared} {vs : List Value} {ns : List Int}
    (KX : K.In s1.heap) (hns : s1.heap.Ns mainGlobals mg) (hb : s1.heap.Ns builtinsNs mb) (hbb : ∀ x : Str, x ≠ "__name__" → mb x = bootBuiltins x) (nl : s1.heap.NoLimit) (hg : s1.gens = #[]) (hno : noLst K = true)
    (ha : s1.heap.get? a = some { cls := .type "list", data := .seq vs.toArray }) (hi : IntsAre vs ns) (hl : ns.length ≤ sizeLine) (rm : RoomG k callerA)
    (T : ∀ base : Heap, K.In base → base.Ns mainGlobals mg → FnG P w K mg base k fa fd [x] (spF ⟨K, w, mg⟩ 1 F)) (hbind : ∀ (s : Shared) (u : Value), BindsTo s fd ⟨[u], []⟩ [(x, u)])
    (law : ∃ m, F [.lst (ns.map .int)] ⟨[], []⟩ = .ok (.bl true) m) :
    codeAny (model P w) callerA (.call (.ref fa) ⟨[.ref a], []⟩) (fun r s' => r = .ok (.ret (.bool true)) ∧ OldK s1.heap s'.heap ∧ s'.os = s1.os ∧ AllBare s'.gens) s1 := by
  have rv := ints_vals hi
  have hk : K.lookup a = none := by
    cases q : K.lookup a with
    | none => rfl
    | some o =>
      have e := KX a o q
      rw [ha] at e
      cases e
      exact absurd rfl (noLst_ok hno q)
  -- the script alone is tracked, as it stands
  let fz : HO := .frz { cls := .type "list", data := .seq vs.toArray } (.lst (ns.map V.int))
  let H : Hp := fun b => if b = a then some fz else none
  have Ha : H a = some fz := if_pos rfl
  have Hn : ∀ {b : Addr}, b ≠ a → H b = none := fun n => if_neg n
  have only : ∀ {b : Addr} {u : HO}, H b = some u → b = a ∧ u = fz := fun {b u} e => by
    by_cases c : b = a
    · subst c; rw [Ha] at e; exact ⟨rfl, (Option.some.inj e).symm⟩
    · rw [Hn c] at e; cases e
  have hok : HOk P w H s1.heap := fun b u e => by
    obtain ⟨rfl, rfl⟩ := only e
    exact ⟨ha, by show (ns.map V.int).length ≤ sizeLine; rw [List.length_map]; exact hl, vs, _, rv, ha⟩
  have dictN : ∀ {b : Addr} {o : Obj} {es : Array DictEntry} {ep : Nat}, s1.heap.get? b = some o → o.data = .dict es ep → H b = none := fun {b o es ep} e d => by
    by_cases c : b = a
    · subst c
      rw [ha] at e
      cases e
      cases d
    · exact Hn c
  have nsB : ∀ {b : Addr} {m : Str → Option Value}, s1.heap.Ns b m → (hidT s1.heap H).Ns b m := fun {b m} ⟨o, es, ep, e, d, r⟩ => ⟨o, es, ep, hidT_get e (dictN e d), d, r⟩
  have KB : K.In (hidT s1.heap H) := fun b o e => hidT_get (KX b o e) (Hn fun z => by rw [z, hk] at e; cases e)
  have M : Mod K mg (hidT s1.heap H) := ⟨KB, nsB hns, ⟨mb, nsB hb, hbb⟩, let ⟨mc, q1, q2⟩ := nl; ⟨mc, nsB q1, q2⟩⟩
  have e0 : Env0 P w K mg (hidT s1.heap H) callerA [] s1 H := ⟨rfl, M, fun b o e => of_hidT e, Nat.le_of_eq (hidT_size _ _), trivial, fun b hb => absurd hb List.not_mem_nil, hok, .of_eq hg⟩
  let g0 : Gh := ⟨H, fun _ => 0, fun _ => none⟩
  have G0 : GoodS ⟨K, w, mg⟩ (fun _ => none) g0 [] H := ⟨fun _ _ e => e, fun _ _ e => (nomatch e), fun n o e => (by cases e), fun _ _ e => (nomatch e)⟩
  have sp : spF ⟨K, w, mg⟩ 1 F [.ref a] H (fun v _ => v = .bl true) fun _ _ _ => False := by
    refine ⟨fun _ => none, g0, [], [.lst (ns.map .int)], rfl, G0, .cons (.lst (.inr ⟨_, Ha⟩) (ints_dvs ns)) .nil, ?_⟩
    obtain ⟨m, e⟩ := law
    rw [e]
    intro v H' g' _ _ r
    cases r
    rfl
  refine codeAny_mono ((T _ KB (nsB hns)).go callerA [] s1 H ⟨[.ref a], []⟩ [.ref a] [.ref a] _ _ rm e0 (hbind s1 (.ref a)) (.cons rfl .nil) sp) fun r s' h => ?_
  match r, h with
  | .error e, h =>
    obtain ⟨_, _, _, _, _, _, _, _, _, _, _, _, z⟩ := h
    exact z.elim
  | .ok (.ret u), h =>
    obtain ⟨v, H', os, bare, un, hok', r', q⟩ := h
    have q : v = .bl true := q
    subst q
    obtain rfl : u = Value.bool true := r'
    refine ⟨rfl, OldK.of_keep fun b o e => ?_, os, bare⟩
    by_cases c : b = a
    · subst c
      have z := un.frzs b _ _ Ha
      rw [ha] at e
      cases e
      exact (hok' b _ z).1
    · exact un.keep b o e (Hn c) List.not_mem_nil List.not_mem_nil
theorem walkG {l : PySem.W.OpenLaw} {n k : Nat} {q : Program} {loose : List Str} {XP : (Str → Option Value) → Heap → Prop} {YP : World → Heap → Prop} {d : DefRec} {x : Str}
    (hn : l.most = some n) (hn2 : n ≤ sizeLine) (hdf : d.params.defaults = []) (rm : RoomG k callerA)
    (T : ∀ (w : World) (mg : Str → Option Value) (fa : Addr) (h : Heap), YP w h → h.Ns mainGlobals mg → mg d.name = some (.ref fa) →
      ∃ (K : PySem.W.Frag) (fd : FuncData) (F : Fn), K.In h ∧ noLst K = true ∧ (∀ (s : Shared) (u : Value), BindsTo s fd ⟨[u], []⟩ [(x, u)]) ∧ (∀ ns : List Int, ns.length ≤ n → ∃ m, F [.lst (ns.map .int)] ⟨[], []⟩ = .ok (.bl true) m) ∧
        ∀ base : Heap, K.In base → base.Ns mainGlobals mg → FnG l.prog w K mg base k fa fd [x] (spF ⟨K, w, mg⟩ 1 F)) :
    PySem.W.WalkO q loose XP YP l.row.toRowW d [] (fun f vs => PySem.call f vs) :=
  Att.attach_call hn hdf fun w s₀ s₁ mg mb fa o pm cd doc a vs ns G Y ho hd hcd hmg hobj hints hlen hg => by
    obtain ⟨K, fd, F, KX, hno, hb, law, hT⟩ := T w mg fa _ Y G.T.g hmg
    exact lawG KX G.T.g G.T.b G.T.builtins G.T.nolimit hg hno hobj hints (Nat.le_trans hlen hn2) rm hT hb (law ns hlen)
end
end LB

namespace LB
open PySem L2 PyProof.Rows

/-! ### plain reckoning: single steps -/
theorem trunc_self (l : List D) (S : List SO) : trunc S.length l S = S := by
  unfold trunc
  split
  · exact List.take_length
  · rfl
section
variable (m : Mst)
theorem look_non : look m .non = .non := rfl
theorem look_bl (b : Bool) : look m (.bl b) = .bl b := rfl
theorem look_int (i : Int) : look m (.int i) = .int i := rfl
theorem look_str (x : Str) : look m (.str x) = .str x := rfl
theorem look_tup (l : List D) : look m (.tup l) = .tup l := rfl
theorem look_lst (l : List D) : look m (.lst l) = .lst l := rfl
theorem look_ktp (l : List D) : look m (.ktp l) = .ktp l := rfl
theorem look_dct (t : Bool) (l : List (D × D)) : look m (.dct t l) = .dct t l := rfl
theorem look_kdc (l : List (Str × D)) : look m (.kdc l) = .kdc l := rfl
variable (i j : Int)
theorem add_int : bopMN .add (.int i) (.int j) m = .ok (.int (i + j)) m := rfl
theorem sub_int : bopMN .sub (.int i) (.int j) m = .ok (.int (i - j)) m := rfl
theorem mul_int (h : MulOk i j) : bopMN .mul (.int i) (.int j) m = .ok (.int (i * j)) m := by
  show (if MulOk i j then Res.ok (D.int (i * j)) m else Res.no) = _
  rw [if_pos h]
theorem mod_int (h : 0 < j) : bopMN .mod (.int i) (.int j) m = .ok (.int (i % j)) m := by
  show (if 0 < j then Res.ok (D.int (i % j)) m else Res.no) = _
  rw [if_pos h]
theorem fdiv_int (h : 0 < j) (h2 : j < 1073741824) : bopMN .fdiv (.int i) (.int j) m = .ok (.int (i / j)) m := by
  show (if DivOk j then Res.ok (D.int (i / j)) m else Res.no) = _
  rw [if_pos ⟨h, .inl h2⟩]
theorem pow_int (h : PowOk i j) : bopMN .pow (.int i) (.int j) m = .ok (.int (i ^ j.toNat)) m := by
  show (if PowOk i j then Res.ok (D.int (i ^ j.toNat)) m else Res.no) = _
  rw [if_pos h]
theorem add_lst (x y : List D) (h : x.length + y.length ≤ sizeLine) : bopMN .add (.lst x) (.lst y) m = .ok (.lst (x ++ y)) m := by
  show (match (if x.length + y.length ≤ sizeLine then Res.ok (Ob.lst (x ++ y)) m else Res.no) with | .ok b m => Res.ok b.d m | _ => bopM .add (.lst x) (.lst y) m) = _
  rw [if_pos h]
  rfl
theorem add_tup (x y : List D) (h : x.length + y.length ≤ sizeLine) : bopMN .add (.tup x) (.tup y) m = .ok (.tup (x ++ y)) m := by
  show (if x.length + y.length ≤ sizeLine then Res.ok (D.tup (x ++ y)) m else Res.no) = _
  rw [if_pos h]
theorem addS_int : bopS .add (.int i) (.int j) m = .ok (.inl (.int (i + j))) m := rfl
theorem mulS_int (h : MulOk i j) : bopS .mul (.int i) (.int j) m = .ok (.inl (.int (i * j))) m := by
  show (match (if MulOk i j then Res.ok (D.int (i * j)) m else Res.no) with | .ok d m => Res.ok (Sum.inl d : D ⊕ Ob) m | .exc x m => .exc x m | .no => .no) = _
  rw [if_pos h]
theorem modS_int (h : 0 < j) : bopS .mod (.int i) (.int j) m = .ok (.inl (.int (i % j))) m := by
  show (match (if 0 < j then Res.ok (D.int (i % j)) m else Res.no) with | .ok d m => Res.ok (Sum.inl d : D ⊕ Ob) m | .exc x m => .exc x m | .no => .no) = _
  rw [if_pos h]
theorem fdivS_int (h : 0 < j) (h2 : j < 1073741824) : bopS .fdiv (.int i) (.int j) m = .ok (.inl (.int (i / j))) m := by
  show (match (if DivOk j then Res.ok (D.int (i / j)) m else Res.no) with | .ok d m => Res.ok (Sum.inl d : D ⊕ Ob) m | .exc x m => .exc x m | .no => .no) = _
  rw [if_pos ⟨h, .inl h2⟩]
theorem addS_tup (x y : List D) (h : x.length + y.length ≤ sizeLine) : bopS .add (.tup x) (.tup y) m = .ok (.inl (.tup (x ++ y))) m := by
  show (match (if x.length + y.length ≤ sizeLine then Res.ok (D.tup (x ++ y)) m else Res.no) with | .ok d m => Res.ok (Sum.inl d : D ⊕ Ob) m | .exc x m => .exc x m | .no => .no) = _
  rw [if_pos h]
theorem addS_lst (x y : List D) (h : x.length + y.length ≤ sizeLine) : bopS .add (.lst x) (.lst y) m = .ok (.inr (.lst (x ++ y))) m := by
  show (match (if x.length + y.length ≤ sizeLine then Res.ok (Ob.lst (x ++ y)) m else Res.no) with | .ok b m => Res.ok (Sum.inr b : D ⊕ Ob) m | _ => (match bopM .add (.lst x) (.lst y) m with | .ok d m => Res.ok (Sum.inl d : D ⊕ Ob) m | .exc x m => .exc x m | .no => .no)) = _
  rw [if_pos h]
end
/-! ### operands -/
theorem ex_v (i : Nat) (f : Mo D) : (Ex.v i).opd f = (some i, .no) := rfl
section
variable {γ : Type} (op : D → Mo γ) (op2 : D → D → Mo γ) (i j : Nat) (f g h h' : Mo D) (m : Mst)
theorem o1_v : opd1 (some i, h) op m = match pkV i m with
    | some d => op (look m d) m
    | none => .no := by
  unfold opd1
  simp only [Opd.pre, Opd.get]
  cases e : pkV i m <;> simp [e]
theorem o1_e : opd1 (none, f) op m = (f m).bind fun d m => op (look m d) m := by
  unfold opd1
  simp only [Opd.pre, Opd.get]
theorem o2_vv : opd2 (some i, h) (some j, h') op2 m = match pkV i m, pkV j m with
    | some d, some e => op2 (look m d) (look m e) m
    | _, _ => .no := by
  unfold opd2
  simp only [Opd.pre, Opd.get]
  cases e : pkV i m <;> cases e2 : pkV j m <;> simp [e, e2]
theorem o2_ee : opd2 (none, f) (none, g) op2 m = (f m).bind fun d m => (g m).bind fun e m => op2 (look m d) (look m e) m := by
  unfold opd2
  simp only [Opd.pre, Opd.get]
theorem o2_ev : opd2 (none, f) (some j, h) op2 m = (f m).bind fun d m => match pkV j m with
    | some e => op2 (look m d) (look m e) m
    | none => .no := by
  unfold opd2
  simp only [Opd.pre, Opd.get]
  congr 1
  funext d m
  cases e : pkV j m <;> simp [e]
theorem o2_ve (d : D) (e : D) (m' : Mst) (q : g m = .ok e m') (p1 : pkV i m = some d) : opd2 (some i, h) (none, g) op2 m = match pkV i m' with
    | some d => op2 (look m' d) (look m' e) m'
    | none => .no := by
  unfold opd2
  simp only [Opd.pre, Opd.get, p1, q, Res.bind_ok]
  cases e : pkV i m' <;> simp [e]
end
/-! ### bounds -/
/-- less than 2 ^ a -/
def Bd (a : Nat) (i : Int) : Prop := i.natAbs < 2 ^ a
instance (a : Nat) (i : Int) : Decidable (Bd a i) := by unfold Bd; infer_instance
theorem Bd.up {a c : Nat} {i : Int} (h : Bd a i) (h1 : a ≤ c) : Bd c i := Nat.lt_of_lt_of_le h (Nat.pow_le_pow_right (by omega) h1)
theorem Bd.add {a b c : Nat} {i j : Int} (h : Bd a i) (k : Bd b j) (h1 : a < c) (h2 : b < c) : Bd c (i + j) := by
  unfold Bd at *
  have q1 : (2 : Nat) ^ a ≤ 2 ^ (c - 1) := Nat.pow_le_pow_right (by omega) (by omega)
  have q2 : (2 : Nat) ^ b ≤ 2 ^ (c - 1) := Nat.pow_le_pow_right (by omega) (by omega)
  have q3 : (2 : Nat) ^ c = 2 * 2 ^ (c - 1) := by rw [← Nat.pow_succ']; congr 1; omega
  have q4 := Int.natAbs_add_le i j
  omega
theorem Bd.mul {a b c : Nat} {i j : Int} (h : Bd a i) (k : Bd b j) (h1 : a + b ≤ c) : Bd c (i * j) := by
  unfold Bd at *
  rw [Int.natAbs_mul]
  have q := Nat.mul_lt_mul'' h k
  rw [← Nat.pow_add] at q
  exact Nat.lt_of_lt_of_le q (Nat.pow_le_pow_right (by omega) h1)
theorem Bd.ok {a b : Nat} {i j : Int} (h : Bd a i) (k : Bd b j) (h1 : a ≤ 4000) (h2 : b ≤ 4000) : MulOk i j :=
  .inr ⟨Nat.lt_of_lt_of_le h (Nat.pow_le_pow_right (by omega) h1), Nat.lt_of_lt_of_le k (Nat.pow_le_pow_right (by omega) h2)⟩
theorem Bd.of {a : Nat} {i : Int} (h : 0 ≤ i) (k : i < 2 ^ a) : Bd a i := by
  unfold Bd
  have e : ((2 : Nat) ^ a : Nat) = ((2 : Int) ^ a) := by push_cast; rfl
  omega
end LB

namespace LB
open PySem L2 PyProof.Rows

/-! ### the plain form reckoned: every construct at a state -/
section
variable (Φ : Str → Fn) (m : Mst)
@[simp] theorem z_bind {α β : Type} (x : Mo α) (f : α → Mo β) : (Mo.bind x f) m = (x m).bind f := rfl
@[simp] theorem z_nil : evTs Φ .nil m = .ok .nx m := rfl
@[simp] theorem z_cons (s : Sx) (r : Sxs) : evTs Φ (.cons s r) m = (evT Φ s m).bind fun k => match k with | .nx => evTs Φ r | k => .ret k := rfl
@[simp] theorem z_pass : evT Φ .pass m = .ok .nx m := rfl
@[simp] theorem z_brk : evT Φ .brk m = .ok .bk m := rfl
@[simp] theorem z_cnt : evT Φ .cnt m = .ok .ct m := rfl
@[simp] theorem z_ret (e : Ex) : evT Φ (.ret e) m = (evE Φ e m).bind fun d => .ret (.rt d) := rfl
@[simp] theorem z_retN : evT Φ .retN m = .ok (.rt .non) m := rfl
@[simp] theorem z_expr (e : Ex) : evT Φ (.expr e) m = (evE Φ e m).bind fun _ => .ret .nx := rfl
@[simp] theorem z_asg (t : Tg) (e : Ex) : evT Φ (.asg t e) m = (evE Φ e m).bind fun d => setT t d := rfl
@[simp] theorem z_own (i : Nat) (n : Nx) : evT Φ (.own i n) m = (evN Φ n m).bind fun o m => if i < m.ρ.length then .ok .nx { m with ρ := m.ρ.set i (.own o) } else .no := rfl
@[simp] theorem z_setb (i : Nat) (o : BOp) (a b : Ex) : evT Φ (.setb i o a b) m = ((opd2 (a.opd (evE Φ a)) (b.opd (evE Φ b)) (bopS o)) m).bind (putS i) := rfl
@[simp] theorem z_sets (i : Nat) (a : Ex) (lo hi : Px) : evT Φ (.sets i a lo hi) m = ((slM (a.opd (evE Φ a)) (evP Φ lo) (evP Φ hi) slS) m).bind (putS i) := rfl
@[simp] theorem z_setr (i : Nat) (a : Ex) : evT Φ (.setr i a) m = ((opd1 (a.opd (evE Φ a)) revS) m).bind (putS i) := rfl
@[simp] theorem z_ifs (c : Bx) (a b : Sxs) : evT Φ (.ifs c a b) m = (evB Φ c m).bind fun k => if k = true then evTs Φ a else evTs Φ b := rfl
@[simp] theorem z_for (ks : List Nat) (s : Sr) (t : Tg) (b : Sxs) : evT Φ (.for ks s t b) m = (evS Φ s m).bind fun ds => forL ks t (evTs Φ b) ds := rfl
@[simp] theorem z_aug (i : Nat) (e : Ex) : evT Φ (.aug i e) m = augM i (evE Φ e) m := rfl
@[simp] theorem z_seti (a k v : Ex) : evT Φ (.seti a k v) m = (setiE (a.opd (evE Φ a)) (evE Φ k) (evE Φ v) m).bind fun _ => .ret .nx := rfl
@[simp] theorem z_setf (a : Ex) (f : Str) (v : Ex) : evT Φ (.setf a f v) m = (((evE Φ v).bind fun e => opd1 (a.opd (evE Φ a)) (setfM f e)) m).bind fun _ => .ret .nx := rfl
@[simp] theorem z_augf (a : Ex) (f : Str) (v : Ex) : evT Φ (.augf a f v) m = (augfE f (a.opd (evE Φ a)) (evE Φ v) m).bind fun _ => .ret .nx := rfl
@[simp] theorem z_par (is : List Nat) (es : Exs) : evT Φ (.par is es) m = (evX Φ es m).bind fun ds => setT (.tp (is.foldr (fun i t => .cons (.nm i) t) .nil)) (.tup ds) := rfl
@[simp] theorem z_unp (i : Nat) (fs : List Str) (e : Ex) : evT Φ (.unp i fs e) m = unpM i fs (evE Φ e) m := rfl
@[simp] theorem z_whl (ks : List Nat) (c : Bx) (b : Sxs) : evT Φ (.whl ks c b) m = whlL ks (evB Φ c) (evTs Φ b) fuel m := rfl
@[simp] theorem z_stuck : evT Φ .stuck m = .no := rfl
@[simp] theorem z_rai (c : Str) : evT Φ (.rai c) m = .exc ⟨c, []⟩ m := rfl
@[simp] theorem z_try (b : Sxs) (t : List (Str × Bool)) (i j : Nat) : evT Φ (.tryx b t i j) m = match evTs Φ b m with
  | .exc x m' => match t.lookup x.c, excD x with
    | some true, some d => .ok .nx { m' with ρ := (((m'.ρ.set i (.va d)).set j (.va d)).set i .un) }
    | some false, _ => .exc x m'
    | _, _ => .no
  | r => r := rfl
@[simp] theorem z_raf (c f : Str) (e : Ex) : evT Φ (.raf c f e) m = (evE Φ e m).bind fun d m => .exc ⟨c, [(f, d)]⟩ m := rfl
@[simp] theorem z_tro (b : Sxs) (t : List (Str × Bool)) (r : Option Nat) (d : D) : evT Φ (.tryo b t r d) m = match evTs Φ b m with
  | .exc x m' => match t.lookup x.c with
    | some true => endM r d m'
    | some false => .exc x m'
    | none => .no
  | k => k := rfl
@[simp] theorem z_endn (d : D) : endM none d m = .ok (.rt d) m := rfl
@[simp] theorem z_ends (j : Nat) (d : D) : endM (some j) d m = .ok .nx { m with ρ := m.ρ.set j (.va d) } := rfl
@[simp] theorem z_xf (cs : List Str) (f : Str) (a : Ex) : evE Φ (.xf cs f a) m = opd1 (a.opd (evE Φ a)) (xfM cs f) m := rfl
@[simp] theorem z_xfM (cs : List Str) (f c f' : Str) (d : D) (h : c ∈ cs ∧ f' = f) : xfM cs f (.exf c f' d) m = .ok d m := by
  show (if c ∈ cs ∧ f' = f then Mo.ret d else Mo.no) m = _
  rw [if_pos h]
  rfl
@[simp] theorem z_isxN (t : List (Str × Bool)) (c f : Str) (d : D) : isxM t (.exf c f d) m = Mo.opt ((t.lookup c).map .bl) m := rfl
@[simp] theorem z_excF (c f : Str) (d : D) : excD ⟨c, [(f, d)]⟩ = some (.exf c f d) := rfl
@[simp] theorem z_lexf (c f : Str) (d : D) : look m (.exf c f d) = .exf c f d := rfl
@[simp] theorem z_lm (o : Lm) (a : Ex) (es : Exs) : evE Φ (.lm o a es) m = lmM o (a.opd (evE Φ a)) (evX Φ es) m := rfl
@[simp] theorem z_isx (t : List (Str × Bool)) (a : Ex) : evE Φ (.isx t a) m = opd1 (a.opd (evE Φ a)) (isxM t) m := rfl
@[simp] theorem z_isxM (t : List (Str × Bool)) (c : Str) : isxM t (.exo c) m = Mo.opt ((t.lookup c).map .bl) m := rfl
@[simp] theorem z_excD (c : Str) : excD ⟨c, []⟩ = some (.exo c) := rfl
@[simp] theorem z_lexo (c : Str) : look m (.exo c) = .exo c := rfl
@[simp] theorem z_setT (t : Tg) (d : D) : setT t d m = match bindT t d m.ρ with | some ρ => .ok .nx { m with ρ := ρ } | none => .no := rfl
@[simp] theorem z_putI (i : Nat) (d : D) : putS i (.inl d) m = .ok .nx { m with ρ := m.ρ.set i (.va d) } := rfl
@[simp] theorem z_putO (i : Nat) (o : Ob) : putS i (.inr o) m = if i < m.ρ.length then .ok .nx { m with ρ := m.ρ.set i (.own o) } else .no := rfl
@[simp] theorem z_bnm (i : Nat) (d : D) (ρ : List Sl) : bindT (.nm i) d ρ = some (ρ.set i (.va d)) := rfl
@[simp] theorem z_btp (ts : Tgs) (ds : List D) (ρ : List Sl) : bindT (.tp ts) (.tup ds) ρ = bindTs ts ds ρ := rfl
@[simp] theorem z_btl (ts : Tgs) (ds : List D) (ρ : List Sl) : bindT (.tp ts) (.lst ds) ρ = bindTs ts ds ρ := rfl
@[simp] theorem z_btk (ts : Tgs) (ds : List D) (ρ : List Sl) : bindT (.tp ts) (.ktp ds) ρ = bindTs ts ds ρ := rfl
@[simp] theorem z_bsn (ρ : List Sl) : bindTs .nil [] ρ = some ρ := rfl
@[simp] theorem z_bsc (t : Tg) (ts : Tgs) (d : D) (ds : List D) (ρ : List Sl) : bindTs (.cons t ts) (d :: ds) ρ = match bindT t d ρ with | some ρ' => bindTs ts ds ρ' | none => none := rfl
-- expressions
@[simp] theorem z_k (d : D) : evE Φ (.k d) m = .ok d m := rfl
@[simp] theorem z_v (i : Nat) : evE Φ (.v i) m = evV i m := rfl
@[simp] theorem z_mc (d : D) : evE Φ (.mc d) m = .ok d m := rfl
@[simp] theorem z_bop (o : BOp) (a b : Ex) : evE Φ (.bop o a b) m = opd2 (a.opd (evE Φ a)) (b.opd (evE Φ b)) (bopMN o) m := rfl
@[simp] theorem z_neg (a : Ex) : evE Φ (.neg a) m = opd1 (a.opd (evE Φ a)) negM m := rfl
@[simp] theorem z_inv (a : Ex) : evE Φ (.inv a) m = opd1 (a.opd (evE Φ a)) invM m := rfl
@[simp] theorem z_cmp (o : COp) (a b : Ex) : evE Φ (.cmp o a b) m = (opd2 (a.opd (evE Φ a)) (b.opd (evE Φ b)) (cmpM o) m).bind fun k => .ret (.bl k) := rfl
@[simp] theorem z_ch (o p : COp) (a b c : Ex) : evE Φ (.ch o p a b c) m = (chM o p (a.opd (evE Φ a)) (b.opd (evE Φ b)) (c.opd (evE Φ c)) m).bind fun k => .ret (.bl k) := rfl
@[simp] theorem z_nt (a : Ex) : evE Φ (.nt a) m = (opd1 (a.opd (evE Φ a)) truM m).bind fun c => .ret (.bl (!c)) := by
  show ((opd1 (a.opd (evE Φ a)) truM m).bind fun c => .ret (!c)).bind _ = _
  cases opd1 (a.opd (evE Φ a)) truM m <;> rfl
@[simp] theorem z_and (a b : Ex) : evE Φ (.and a b) m = (evE Φ a m).bind fun d m => match truD (look m d) with | some true => evE Φ b m | some false => .ok d m | none => .no := rfl
@[simp] theorem z_or (a b : Ex) : evE Φ (.or a b) m = (evE Φ a m).bind fun d m => match truD (look m d) with | some false => evE Φ b m | some true => .ok d m | none => .no := rfl
@[simp] theorem z_ite (c : Bx) (a b : Ex) : evE Φ (.ite c a b) m = (evB Φ c m).bind fun k => if k = true then evE Φ a else evE Φ b := rfl
@[simp] theorem z_tup (es : Exs) : evE Φ (.tup es) m = (evX Φ es m).bind fun ds m => if ds.length ≤ sizeLine then .ok (.tup ds) m else .no := rfl
@[simp] theorem z_nw (n : Nx) : evE Φ (.nw n) m = (evN Φ n m).bind fun o => .ret o.d := rfl
@[simp] theorem z_call (x : Str) (es : Exs) : evE Φ (.call x es) m = (evX Φ es m).bind fun ds m => match Φ x ds ⟨[], m.S⟩ with
  | .ok d m' => .ok d ⟨m.ρ, m'.S⟩
  | .exc x m' => .exc x ⟨m.ρ, m'.S⟩
  | .no => .no := rfl
@[simp] theorem z_b1 (b : Bi1) (a : Ex) : evE Φ (.b1 b a) m = opd1 (a.opd (evE Φ a)) (bi1M b) m := rfl
@[simp] theorem z_isi (c : String) (a : Ex) : evE Φ (.isi c a) m = opd1 (a.opd (evE Φ a)) (bi1M (.isi c)) m := rfl
@[simp] theorem z_mn2 (mx : Bool) (a b : Ex) : evE Φ (.mn2 mx a b) m = opd2 (a.opd (evE Φ a)) (b.opd (evE Φ b)) (mn2M mx) m := rfl
@[simp] theorem z_ix (a b : Ex) : evE Φ (.ix a b) m = opd2 (a.opd (evE Φ a)) (b.opd (evE Φ b)) ixM m := rfl
@[simp] theorem z_sl (a : Ex) (lo hi : Px) : evE Φ (.sl a lo hi) m = slM (a.opd (evE Φ a)) (evP Φ lo) (evP Φ hi) slMN m := rfl
@[simp] theorem z_om (o : Om) (a : Ex) (es : Exs) : evE Φ (.om o a es) m = omM o (a.opd (evE Φ a)) (evX Φ es) m := rfl
@[simp] theorem z_dget (a k z : Ex) : evE Φ (.dget a k z) m = dgetM (a.opd (evE Φ a)) (evE Φ k) (evE Φ z) m := rfl
@[simp] theorem z_al (n : Nx) : evE Φ (.al n) m = (evN Φ n m).bind fun o m => .ok (.ref m.S.length) { m with S := m.S ++ [.ob o] } := rfl
@[simp] theorem z_fld (a : Ex) (f : Str) : evE Φ (.fld a f) m = opd1 (a.opd (evE Φ a)) (fldM f) m := rfl
@[simp] theorem z_mk (c key : Str) (es : Exs) : evE Φ (.mk c key es) m = mkM (Φ key) c (evX Φ es) m := rfl
@[simp] theorem z_mth (cs : List (Str × Str)) (mn : Str) (a : Ex) (es : Exs) : evE Φ (.mth cs mn a es) m = mthM Φ cs mn (a.opd (evE Φ a)) (evX Φ es) m := rfl
@[simp] theorem z_cv (fs : List Str) (f : Ex) (es : Exs) : evE Φ (.cv fs f es) m = (evE Φ f m).bind fun d m => match d with
  | .glo x => if x ∈ fs then callM (Φ x) (evX Φ es) m else .no
  | _ => .no := rfl
@[simp] theorem z_bits (a : Ex) : evE Φ (.bits a) m = opd1 (a.opd (evE Φ a)) bitsM m := rfl
@[simp] theorem z_rv (a : Ex) : evE Φ (.rv a) m = opd1 (a.opd (evE Φ a)) revMN m := rfl
@[simp] theorem z_callM (F : Fn) (f : Mo (List D)) : callM F f m = (f m).bind fun ds m => match F ds ⟨[], m.S⟩ with
  | .ok d m' => .ok d ⟨m.ρ, m'.S⟩
  | .exc x m' => .exc x ⟨m.ρ, m'.S⟩
  | .no => .no := rfl
@[simp] theorem z_xn : evX Φ .nil m = .ok [] m := rfl
@[simp] theorem z_xc (e : Ex) (r : Exs) : evX Φ (.cons e r) m = (evE Φ e m).bind fun d => Mo.bind (evX Φ r) fun ds => .ret (d :: ds) := rfl
@[simp] theorem z_pno : evP Φ .no = none := rfl
@[simp] theorem z_pso (a : Ex) : evP Φ (.some a) = some (evE Φ a) := rfl
@[simp] theorem z_prN : prtM none m = .ok none m := rfl
@[simp] theorem z_prS (f : Mo D) : prtM (some f) m = (f m).bind fun d => match d with | .int i => .ret (some i) | _ => .no := rfl
@[simp] theorem z_slM {γ : Type} (a : Opd) (lo hi : Prt) (op : D → Option Int → Option Int → Mo γ) : slM a lo hi op m = (a.pre m).bind fun x => Mo.bind (prtM lo) fun l => Mo.bind (prtM hi) fun h => fun m => match a.get x m with
  | some d => op d l h m
  | none => .no := rfl
-- new objects
@[simp] theorem z_nlst (es : Exs) : evN Φ (.lst es) m = (evX Φ es m).bind fun ds m => if ds.length ≤ sizeLine then .ok (.lst ds) m else .no := rfl
@[simp] theorem z_nbop (o : BOp) (a b : Ex) : evN Φ (.bop o a b) m = opd2 (a.opd (evE Φ a)) (b.opd (evE Φ b)) (bopN o) m := rfl
@[simp] theorem z_nlist (a : Ex) : evN Φ (.list a) m = opd1 (a.opd (evE Φ a)) listN m := rfl
@[simp] theorem z_nsl (a : Ex) (lo hi : Px) : evN Φ (.sl a lo hi) m = slM (a.opd (evE Φ a)) (evP Φ lo) (evP Φ hi) slNM m := rfl
@[simp] theorem z_nrev (a : Ex) : evN Φ (.rev a) m = opd1 (a.opd (evE Φ a)) revM m := rfl
@[simp] theorem z_ndct (ps : Prs) : evN Φ (.dct ps) m = dctM (evPs Φ ps) m := rfl
@[simp] theorem z_nlz (es : Exs) : evN Φ (.lzip es) m = lzM (evX Φ es) m := rfl
theorem z_nlc (s : Sr) (t : Tg) (vs : List Nat) (c : Bx) (e : Ex) : evN Φ (.lc s t vs c e) m = lcM (evS Φ s) t vs (evB Φ c) (evE Φ e) m := rfl
@[simp] theorem z_nd0 (t : Bool) : evN Φ (.dct0 t) m = .ok (.dct t []) m := rfl
@[simp] theorem z_nss (a : Ex) : evN Φ (.sset a) m = opd1 (a.opd (evE Φ a)) ssetN m := rfl
@[simp] theorem z_nsr (a : Ex) : evN Φ (.srt a) m = opd1 (a.opd (evE Φ a)) srtN m := rfl
@[simp] theorem z_pn : evPs Φ .nil = [] := rfl
@[simp] theorem z_pc (k v : Ex) (r : Prs) : evPs Φ (.cons k v r) = (evE Φ k, evE Φ v) :: evPs Φ r := rfl
-- what is gone through
@[simp] theorem z_sseq (e : Ex) : evS Φ (.seq e) m = (evE Φ e m).bind fun d => .opt (itemsD d) := rfl
@[simp] theorem z_srng (es : Exs) : evS Φ (.rng es) m = (evX Φ es m).bind fun ds => .opt (rngD ds) := rfl
@[simp] theorem z_sen (es : Exs) : evS Φ (.en es) m = (evX Φ es m).bind fun ds => .opt (enD ds) := rfl
@[simp] theorem z_szz (es : Exs) : evS Φ (.zz es) m = (evX Φ es m).bind fun ds => .opt (zzD ds) := rfl
-- tests
@[simp] theorem z_byes : evB Φ .yes m = .ok true m := rfl
@[simp] theorem z_bcmp (o : COp) (a b : Ex) : evB Φ (.cmp o a b) m = opd2 (a.opd (evE Φ a)) (b.opd (evE Φ b)) (cmpM o) m := rfl
@[simp] theorem z_bch (o p : COp) (a b c : Ex) : evB Φ (.ch o p a b c) m = chM o p (a.opd (evE Φ a)) (b.opd (evE Φ b)) (c.opd (evE Φ c)) m := rfl
@[simp] theorem z_band (a b : Bx) : evB Φ (.and a b) m = (evB Φ a m).bind fun c => if c = true then evB Φ b else .ret false := rfl
@[simp] theorem z_bor (a b : Bx) : evB Φ (.or a b) m = (evB Φ a m).bind fun c => if c = true then .ret true else evB Φ b := rfl
@[simp] theorem z_bnt (a : Bx) : evB Φ (.nt a) m = (evB Φ a m).bind fun c => .ret (!c) := rfl
@[simp] theorem z_btru (a : Ex) : evB Φ (.tru a) m = opd1 (a.opd (evE Φ a)) truM m := rfl
end
/-! operands -/
@[simp] theorem z_opv (i : Nat) (f : Mo D) : (Ex.v i).opd f = (some i, .no) := rfl
section
variable {γ : Type} (op : D → Mo γ) (op2 : D → D → Mo γ) (i j : Nat) (f g h h' : Mo D) (m : Mst)
@[simp] theorem z_o1v : opd1 (some i, h) op m = match pkV i m with
    | some d => op (look m d) m
    | none => .no := o1_v op i h m
@[simp] theorem z_o1e : opd1 (none, f) op m = (f m).bind fun d m => op (look m d) m := o1_e op f m
@[simp] theorem z_o2vv : opd2 (some i, h) (some j, h') op2 m = match pkV i m, pkV j m with
    | some d, some e => op2 (look m d) (look m e) m
    | _, _ => .no := o2_vv op2 i j h h' m
@[simp] theorem z_o2ee : opd2 (none, f) (none, g) op2 m = (f m).bind fun d m => (g m).bind fun e m => op2 (look m d) (look m e) m := o2_ee op2 f g m
@[simp] theorem z_o2ev : opd2 (none, f) (some j, h) op2 m = (f m).bind fun d m => match pkV j m with
    | some e => op2 (look m d) (look m e) m
    | none => .no := o2_ev op2 j f h m
@[simp] theorem z_o2ve : opd2 (some i, h) (none, g) op2 m = match pkV i m with
    | some _ => (g m).bind fun e m => match pkV i m with
      | some d => op2 (look m d) (look m e) m
      | none => .no
    | none => .no := by
  unfold opd2
  simp only [Opd.pre, Opd.get]
  cases e : pkV i m with
  | none => simp
  | some d =>
    simp only [Res.bind_ok]
    congr 1
    funext e2 m2
    cases e3 : pkV i m2 <;> simp [e3]
@[simp] theorem z_prev (h : Mo D) : Opd.pre (some i, h) m = match pkV i m with | some _ => .ok .non m | none => .no := rfl
@[simp] theorem z_pree : Opd.pre (none, f) m = f m := rfl
@[simp] theorem z_getv (h : Mo D) (d : D) : Opd.get (some i, h) d m = (pkV i m).map (look m) := rfl
@[simp] theorem z_gete (d : D) : Opd.get (none, f) d m = some (look m d) := rfl
end
section
variable (Φ : Str → Fn) (f : Mo D)
@[simp] theorem z_opk (d : D) : (Ex.k d).opd f = (none, f) := rfl
@[simp] theorem z_opmc (d : D) : (Ex.mc d).opd f = (none, f) := rfl
@[simp] theorem z_opbop (o : BOp) (a b : Ex) : (Ex.bop o a b).opd f = (none, f) := rfl
@[simp] theorem z_opneg (a : Ex) : (Ex.neg a).opd f = (none, f) := rfl
@[simp] theorem z_opinv (a : Ex) : (Ex.inv a).opd f = (none, f) := rfl
@[simp] theorem z_opcmp (o : COp) (a b : Ex) : (Ex.cmp o a b).opd f = (none, f) := rfl
@[simp] theorem z_opch (o p : COp) (a b c : Ex) : (Ex.ch o p a b c).opd f = (none, f) := rfl
@[simp] theorem z_opnt (a : Ex) : (Ex.nt a).opd f = (none, f) := rfl
@[simp] theorem z_opand (a b : Ex) : (Ex.and a b).opd f = (none, f) := rfl
@[simp] theorem z_opor (a b : Ex) : (Ex.or a b).opd f = (none, f) := rfl
@[simp] theorem z_opite (c : Bx) (a b : Ex) : (Ex.ite c a b).opd f = (none, f) := rfl
@[simp] theorem z_optup (es : Exs) : (Ex.tup es).opd f = (none, f) := rfl
@[simp] theorem z_opnw (n : Nx) : (Ex.nw n).opd f = (none, f) := rfl
@[simp] theorem z_opcall (x : Str) (es : Exs) : (Ex.call x es).opd f = (none, f) := rfl
@[simp] theorem z_opb1 (b : Bi1) (a : Ex) : (Ex.b1 b a).opd f = (none, f) := rfl
@[simp] theorem z_opisi (c : String) (a : Ex) : (Ex.isi c a).opd f = (none, f) := rfl
@[simp] theorem z_opmn2 (b : Bool) (a c : Ex) : (Ex.mn2 b a c).opd f = (none, f) := rfl
@[simp] theorem z_opix (a b : Ex) : (Ex.ix a b).opd f = (none, f) := rfl
@[simp] theorem z_opsl (a : Ex) (lo hi : Px) : (Ex.sl a lo hi).opd f = (none, f) := rfl
@[simp] theorem z_opom (o : Om) (a : Ex) (es : Exs) : (Ex.om o a es).opd f = (none, f) := rfl
@[simp] theorem z_opdget (a b c : Ex) : (Ex.dget a b c).opd f = (none, f) := rfl
@[simp] theorem z_opal (n : Nx) : (Ex.al n).opd f = (none, f) := rfl
@[simp] theorem z_opfld (a : Ex) (x : Str) : (Ex.fld a x).opd f = (none, f) := rfl
@[simp] theorem z_opmk (c k : Str) (es : Exs) : (Ex.mk c k es).opd f = (none, f) := rfl
@[simp] theorem z_opmth (cs : List (Str × Str)) (x : Str) (a : Ex) (es : Exs) : (Ex.mth cs x a es).opd f = (none, f) := rfl
@[simp] theorem z_opcv (fs : List Str) (a : Ex) (es : Exs) : (Ex.cv fs a es).opd f = (none, f) := rfl
@[simp] theorem z_opbits (a : Ex) : (Ex.bits a).opd f = (none, f) := rfl
@[simp] theorem z_opxf (cs : List Str) (x : Str) (a : Ex) : (Ex.xf cs x a).opd f = (none, f) := rfl
@[simp] theorem z_oplm (o : Lm) (a : Ex) (es : Exs) : (Ex.lm o a es).opd f = (none, f) := rfl
@[simp] theorem z_opisx (t : List (Str × Bool)) (a : Ex) : (Ex.isx t a).opd f = (none, f) := rfl
@[simp] theorem z_oprv (a : Ex) : (Ex.rv a).opd f = (none, f) := rfl
end
/-! slots -/
section
variable {i : Nat} {ρ : List Sl} {S : List SO} {d : D} {o : Ob} {m : Mst}
@[simp] theorem z_pk : pkV i ⟨ρ, S⟩ = match ρ[i]? with | some (.va d) => some d | some (.own o) => some o.d | _ => none := rfl
@[simp] theorem z_ev : evV i ⟨ρ, S⟩ = match ρ[i]? with | some (.va d) => .ok d ⟨ρ, S⟩ | some (.own o) => .ok o.d ⟨ρ.set i (.va o.d), S⟩ | _ => .no := rfl
@[simp] theorem z_obl (ds : List D) : (Ob.lst ds).d = .lst ds := rfl
@[simp] theorem z_obd (t : Bool) (kvs : List (D × D)) : (Ob.dct t kvs).d = .dct t kvs := rfl
@[simp] theorem z_lnon : look m .non = .non := rfl
@[simp] theorem z_lbl (b : Bool) : look m (.bl b) = .bl b := rfl
@[simp] theorem z_lint (i : Int) : look m (.int i) = .int i := rfl
@[simp] theorem z_lstr (x : Str) : look m (.str x) = .str x := rfl
@[simp] theorem z_ltup (l : List D) : look m (.tup l) = .tup l := rfl
@[simp] theorem z_llst (l : List D) : look m (.lst l) = .lst l := rfl
@[simp] theorem z_lktp (l : List D) : look m (.ktp l) = .ktp l := rfl
@[simp] theorem z_ldct (t : Bool) (l : List (D × D)) : look m (.dct t l) = .dct t l := rfl
@[simp] theorem z_lkdc (l : List (Str × D)) : look m (.kdc l) = .kdc l := rfl
@[simp] theorem z_lglo (x : Str) : look m (.glo x) = .glo x := rfl
@[simp] theorem z_lref (n : Nat) : look m (.ref n) = match m.S[n]? with | some (.ob o) => o.d | _ => .ref n := rfl
end
/-! operators on data -/
section
variable (m : Mst) (i j : Int)
@[simp] theorem z_addi : bopMN .add (.int i) (.int j) m = .ok (.int (i + j)) m := rfl
@[simp] theorem z_subi : bopMN .sub (.int i) (.int j) m = .ok (.int (i - j)) m := rfl
@[simp] theorem z_andi : bopMN .band (.int i) (.int j) m = .ok (.int (Builtin.bitAnd i j)) m := rfl
@[simp] theorem z_ori : bopMN .bor (.int i) (.int j) m = .ok (.int (Builtin.bitOr i j)) m := rfl
@[simp] theorem z_xori : bopMN .bxor (.int i) (.int j) m = .ok (.int (Builtin.bitXor i j)) m := rfl
@[simp] theorem z_muli (h : MulOk i j) : bopMN .mul (.int i) (.int j) m = .ok (.int (i * j)) m := mul_int m i j h
@[simp] theorem z_modi (h : 0 < j) : bopMN .mod (.int i) (.int j) m = .ok (.int (i % j)) m := mod_int m i j h
@[simp] theorem z_fdivi (h : 0 < j) (h2 : j < 1073741824) : bopMN .fdiv (.int i) (.int j) m = .ok (.int (i / j)) m := fdiv_int m i j h h2
@[simp] theorem z_powi (h : PowOk i j) : bopMN .pow (.int i) (.int j) m = .ok (.int (i ^ j.toNat)) m := pow_int m i j h
@[simp] theorem z_addl (x y : List D) (h : x.length + y.length ≤ sizeLine) : bopMN .add (.lst x) (.lst y) m = .ok (.lst (x ++ y)) m := add_lst m x y h
@[simp] theorem z_addt (x y : List D) (h : x.length + y.length ≤ sizeLine) : bopMN .add (.tup x) (.tup y) m = .ok (.tup (x ++ y)) m := add_tup m x y h
@[simp] theorem z_addS : bopS .add (.int i) (.int j) m = .ok (.inl (.int (i + j))) m := rfl
@[simp] theorem z_subS : bopS .sub (.int i) (.int j) m = .ok (.inl (.int (i - j))) m := rfl
@[simp] theorem z_mulS (h : MulOk i j) : bopS .mul (.int i) (.int j) m = .ok (.inl (.int (i * j))) m := mulS_int m i j h
@[simp] theorem z_modS (h : 0 < j) : bopS .mod (.int i) (.int j) m = .ok (.inl (.int (i % j))) m := modS_int m i j h
@[simp] theorem z_fdivS (h : 0 < j) (h2 : j < 1073741824) : bopS .fdiv (.int i) (.int j) m = .ok (.inl (.int (i / j))) m := fdivS_int m i j h h2
@[simp] theorem z_addSt (x y : List D) (h : x.length + y.length ≤ sizeLine) : bopS .add (.tup x) (.tup y) m = .ok (.inl (.tup (x ++ y))) m := addS_tup m x y h
@[simp] theorem z_addSl (x y : List D) (h : x.length + y.length ≤ sizeLine) : bopS .add (.lst x) (.lst y) m = .ok (.inr (.lst (x ++ y))) m := addS_lst m x y h
end
theorem MulOk.small {i j : Int} (h : i.natAbs < 2 ^ 64) : MulOk i j := .inl (.inl h)
theorem MulOk.smallR {i j : Int} (h : j.natAbs < 2 ^ 64) : MulOk i j := .inl (.inr h)
/-! comparisons -/
@[simp] theorem z_cm (o : COp) (d e : D) (m : Mst) : cmpM o d e m = match cmpD o d e with | some k => .ok k m | none => .no := by
  unfold cmpM
  cases cmpD o d e <;> rfl
@[simp] theorem z_lti (i j : Int) : cmpD .lt (.int i) (.int j) = some (decide (i < j)) := rfl
@[simp] theorem z_lei (i j : Int) : cmpD .le (.int i) (.int j) = some (decide (i ≤ j)) := rfl
@[simp] theorem z_gti (i j : Int) : cmpD .gt (.int i) (.int j) = some (decide (j < i)) := rfl
@[simp] theorem z_gei (i j : Int) : cmpD .ge (.int i) (.int j) = some (decide (j ≤ i)) := rfl
@[simp] theorem z_isn (d : D) : cmpD .is_ d .non = some d.isN := by cases d <;> rfl
@[simp] theorem z_isnn (d : D) : cmpD .isnot d .non = some (!d.isN) := by cases d <;> rfl
@[simp] theorem z_ne (d e : D) : cmpD .ne d e = (cmpD .eq d e).map not := by cases d <;> cases e <;> rfl
theorem shaped_int (i : Int) : SeqAt.shaped (D.toP (.int i)) = true := by simp [SeqAt.shaped, D.toP, PyData.depth, PyData.canLay0]
theorem shaped_str (x : Str) (h : PyData.strOk x = true) : SeqAt.shaped (D.toP (.str x)) = true := by simp [SeqAt.shaped, D.toP, PyData.depth, PyData.canLay0, h]
@[simp] theorem z_eqi (i j : Int) : cmpD .eq (.int i) (.int j) = some (decide (i = j)) := by
  show eqD _ _ = _
  unfold eqD
  rw [shaped_int, shaped_int, if_pos (by decide)]
  show some (i == j) = _
  congr 1
@[simp] theorem z_eqs (x y : Str) (h1 : PyData.strOk x = true) (h2 : PyData.strOk y = true) : cmpD .eq (.str x) (.str y) = some (decide (x = y)) := by
  show eqD _ _ = _
  unfold eqD
  rw [shaped_str x h1, shaped_str y h2, if_pos (by decide)]
  show some (x == y) = _
  congr 1
@[simp] theorem z_eqb (x y : Bool) : cmpD .eq (.bl x) (.bl y) = some (x == y) := by cases x <;> cases y <;> rfl
@[simp] theorem z_tru (d : D) (m : Mst) : truM d m = match truD d with | some k => .ok k m | none => .no := by
  unfold truM
  cases truD d <;> rfl
@[simp] theorem z_trb (b : Bool) : truD (.bl b) = some b := rfl
@[simp] theorem z_trn : truD .non = some false := rfl
@[simp] theorem z_tri (i : Int) : truD (.int i) = some (i != 0) := rfl
@[simp] theorem z_trt (l : List D) : truD (.tup l) = some (!l.isEmpty) := rfl
@[simp] theorem z_trl (l : List D) : truD (.lst l) = some (!l.isEmpty) := rfl
@[simp] theorem z_bi (b : Bi1) (d : D) (m : Mst) : bi1M b d m = match bi1D b d with | some e => .ok e m | none => .no := by
  unfold bi1M
  cases bi1D b d <;> rfl
@[simp] theorem z_len (d : D) : bi1D .len d = (lenD d).map fun (n : Nat) => D.int (n : Int) := by cases d <;> rfl
@[simp] theorem z_lenT (l : List D) : lenD (.tup l) = some l.length := rfl
@[simp] theorem z_lenL (l : List D) : lenD (.lst l) = some l.length := rfl
@[simp] theorem z_lenK (l : List D) : lenD (.ktp l) = some l.length := rfl
@[simp] theorem z_bt1 (l : List D) : bi1D .tuple (.lst l) = some (.tup l) := rfl
@[simp] theorem z_bt2 (l : List D) : bi1D .tuple (.tup l) = some (.tup l) := rfl
@[simp] theorem z_bin1 (i : Int) : bi1D .int (.int i) = some (.int i) := rfl
@[simp] theorem z_bin2 (b : Bool) : bi1D .int (.bl b) = some (.int (if b then 1 else 0)) := rfl
@[simp] theorem z_bis (c : String) (d : D) : bi1D (.isi c) d = (isiD c d).map .bl := by cases d <;> rfl
@[simp] theorem z_all (l : List D) : bi1D .all (.lst l) = (flatTs l).map fun bs => .bl (bs.all id) := rfl
@[simp] theorem z_any (l : List D) : bi1D .any (.lst l) = (flatTs l).map fun bs => .bl (bs.any id) := rfl
@[simp] theorem z_rep (d : D) : bi1D .repr d = (repD d).map .str := by cases d <;> rfl
@[simp] theorem z_ixT (l : List D) (i : Int) : ixD (.tup l) (.int i) = atI l i := rfl
@[simp] theorem z_ixL (l : List D) (i : Int) : ixD (.lst l) (.int i) = atI l i := rfl
@[simp] theorem z_ixK (l : List D) (i : Int) : ixD (.ktp l) (.int i) = atI l i := rfl
@[simp] theorem z_ixM (d k : D) (m : Mst) : ixM d k m = match ixD d k with | some e => .ok e m | none => .no := by
  unfold ixM
  cases ixD d k <;> rfl
@[simp] theorem z_mn (mx : Bool) (i j : Int) (m : Mst) : mn2M mx (.int i) (.int j) m = .ok (.int (if mx then (if j > i then j else i) else if j < i then j else i)) m := rfl
@[simp] theorem z_itT (l : List D) : itemsD (.tup l) = some l := rfl
@[simp] theorem z_itL (l : List D) : itemsD (.lst l) = some l := rfl
@[simp] theorem z_itK (l : List D) : itemsD (.ktp l) = some l := rfl
@[simp] theorem z_negi (i : Int) (m : Mst) : negM (.int i) m = .ok (.int (-i)) m := rfl
@[simp] theorem z_bitsi (i : Int) (m : Mst) : bitsM (.int i) m = .ok (.int (Builtin.Int.intBits i : Nat)) m := rfl
@[simp] theorem z_liT (l : List D) (m : Mst) : listN (.tup l) m = .ok (.lst l) m := rfl
@[simp] theorem z_liL (l : List D) (m : Mst) : listN (.lst l) m = .ok (.lst l) m := rfl
@[simp] theorem z_liK (l : List D) (m : Mst) : listN (.ktp l) m = .ok (.lst l) m := rfl
@[simp] theorem z_slT (l : List D) (a b : Option Int) (m : Mst) : slMN (.tup l) a b m = .ok (.tup (cutD l a b)) m := rfl
@[simp] theorem z_slL (l : List D) (a b : Option Int) (m : Mst) : slMN (.lst l) a b m = .ok (.lst (cutD l a b)) m := rfl
@[simp] theorem z_slST (l : List D) (a b : Option Int) (m : Mst) : slS (.tup l) a b m = .ok (.inl (.tup (cutD l a b))) m := rfl
@[simp] theorem z_slSL (l : List D) (a b : Option Int) (m : Mst) : slS (.lst l) a b m = .ok (.inr (.lst (cutD l a b))) m := rfl
@[simp] theorem z_rvT (l : List D) (m : Mst) : revMN (.tup l) m = .ok (.tup l.reverse) m := rfl
@[simp] theorem z_rvL (l : List D) (m : Mst) : revMN (.lst l) m = .ok (.lst l.reverse) m := rfl
@[simp] theorem z_enT (l : List D) : enD [.tup l] = some (enumF 0 l) := rfl
@[simp] theorem z_enL (l : List D) : enD [.lst l] = some (enumF 0 l) := rfl
@[simp] theorem z_enK (l : List D) : enD [.ktp l] = some (enumF 0 l) := rfl
@[simp] theorem z_zz (a b : D) : zzD [a, b] = match itemsD a, itemsD b with | some x, some y => some (zipF x y) | _, _ => none := rfl
@[simp] theorem z_isL (ds : List D) (i : Int) (v : D) : putI (.lst ds) (.int i) v = (ixN ds.length i).map fun j => .lst (ds.set j v) := rfl
/-! loops -/
section
variable (ks : List Nat) (t : Tg) (b : Mo Fl) (m : Mst)
theorem forL_nil : forL ks t b [] m = .ok .nx m := rfl
theorem forL_cons (d : D) (ds : List D) : forL ks t b (d :: ds) m = match bindT t d m.ρ with
    | none => .no
    | some ρ => (b { m with ρ := ρ }).bind fun k => match k with
      | .bk => killM ks (.ret .nx)
      | .rt d => .ret (.rt d)
      | _ => killM ks (forL ks t b ds) := rfl
@[simp] theorem z_kill {α : Type} (u : Mo α) : killM ks u m = u { m with ρ := wipeR ks m.ρ } := rfl
@[simp] theorem z_wn (ρ : List Sl) : wipeR [] ρ = ρ := rfl
@[simp] theorem z_wc (i : Nat) (is : List Nat) (ρ : List Sl) : wipeR (i :: is) ρ = wipeR is (ρ.set i .un) := rfl
theorem lcL_nil (vs : List Nat) (c : Mo Bool) (e : Mo D) (acc : List D) : lcL t vs c e acc [] m = .ok acc m := rfl
end
/-- one turn of a loop that goes on to its end: body at x, then the slots let go of -/
theorem forL_step {ks : List Nat} {t : Tg} {b : Mo Fl} {d : D} {ds : List D} {m m' : Mst} {ρ : List Sl} (h : bindT t d m.ρ = some ρ) (h2 : b { m with ρ := ρ } = .ok .nx m') : forL ks t b (d :: ds) m = forL ks t b ds { m' with ρ := wipeR ks m'.ρ } := by
  rw [forL_cons, h]
  simp only [h2, Res.bind_ok]
  rfl
theorem lcL_map {α : Type} {g : α → D} {t : Tg} {vs : List Nat} {c : Mo Bool} {e : Mo D} {f : α → D} {p : α → Bool} {S : List SO} {ρ0 : List Sl} {B : α → List Sl} : ∀ {ds : List α} {acc : List D} {ρ : List Sl}, (∀ d ∈ ds, bindT t (g d) (wipeR vs ρ0) = some (B d)) → (∀ d ∈ ds, wipeR vs (B d) = wipeR vs ρ0) → (∀ d ∈ ds, c ⟨B d, S⟩ = .ok (p d) ⟨B d, S⟩) → (∀ d ∈ ds, p d = true → e ⟨B d, S⟩ = .ok (f d) ⟨B d, S⟩) →
    acc.length + ds.length ≤ sizeLine → wipeR vs ρ = wipeR vs ρ0 → ∃ ρ4, lcL t vs c e acc (ds.map g) ⟨ρ, S⟩ = .ok (acc ++ (ds.filter p).map f) ⟨ρ4, S⟩ ∧ wipeR vs ρ4 = wipeR vs ρ0
  | [], acc, ρ, _, _, _, _, _, w => ⟨ρ, by simp [lcL_nil], w⟩
  | d :: ds, acc, ρ, h1, h2, h3, h4, hz, w => by
    rw [List.length_cons] at hz
    have k1 : ∀ x ∈ ds, bindT t (g x) (wipeR vs ρ0) = some (B x) := fun x hx => h1 x (List.mem_cons_of_mem _ hx)
    have k2 : ∀ x ∈ ds, wipeR vs (B x) = wipeR vs ρ0 := fun x hx => h2 x (List.mem_cons_of_mem _ hx)
    have k3 : ∀ x ∈ ds, c ⟨B x, S⟩ = .ok (p x) ⟨B x, S⟩ := fun x hx => h3 x (List.mem_cons_of_mem _ hx)
    have k4 : ∀ x ∈ ds, p x = true → e ⟨B x, S⟩ = .ok (f x) ⟨B x, S⟩ := fun x hx => h4 x (List.mem_cons_of_mem _ hx)
    have b := h1 d List.mem_cons_self
    rw [← w] at b
    show ∃ ρ4, (match bindT t (g d) (wipeR vs ρ) with
      | none => Res.no
      | some ρ => match c ⟨ρ, S⟩ with
        | .ok true m => match e m with
          | .ok y m => if acc.length < sizeLine then lcL t vs c e (acc ++ [y]) (ds.map g) m else .no
          | _ => .no
        | .ok false m => lcL t vs c e acc (ds.map g) m
        | _ => .no) = _ ∧ _
    simp only [b, h3 d List.mem_cons_self]
    cases hp : p d with
    | false =>
      obtain ⟨ρ4, e1, e2⟩ := lcL_map (acc := acc) (ρ := B d) k1 k2 k3 k4 (by omega) (h2 d List.mem_cons_self)
      exact ⟨ρ4, by simp [e1, hp], e2⟩
    | true =>
      have lt : acc.length < sizeLine := by omega
      obtain ⟨ρ4, e1, e2⟩ := lcL_map (acc := acc ++ [f d]) (ρ := B d) k1 k2 k3 k4 (by simp; omega) (h2 d List.mem_cons_self)
      exact ⟨ρ4, by simp [h4 d List.mem_cons_self hp, lt, e1, hp], e2⟩
theorem wipeR_off : ∀ {vs : List Nat} {ρ : List Sl} {j : Nat}, j ∉ vs → (wipeR vs ρ)[j]? = ρ[j]?
  | [], _, _, _ => rfl
  | v :: vs, ρ, j, h => by
    rw [List.mem_cons, not_or] at h
    show (wipeR vs (ρ.set v .un))[j]? = _
    rw [wipeR_off h.2, List.getElem?_set_ne (fun z => h.1 z.symm)]
theorem rest_wipe {vs : List Nat} {ρ ρ4 : List Sl} (w : wipeR vs ρ4 = wipeR vs ρ) (mw : mayWipe vs ρ = true) : restR vs ρ ρ4 = ρ := by
  have len : ρ4.length = ρ.length := by rw [← wipeR_len (vs := vs) (ρ := ρ4), w, wipeR_len]
  refine List.ext_getElem? fun j => ?_
  by_cases lt : j < ρ.length
  · have lt' : j < (restR vs ρ ρ4).length := by rw [restR_len, len]; exact lt
    rw [List.getElem?_eq_getElem lt']
    rcases restR_at mw (List.getElem?_eq_getElem lt') with ⟨_, h⟩ | ⟨n, h⟩
    · exact h.symm
    · rw [← h, ← wipeR_off (ρ := ρ4) n, w, wipeR_off n]
  · rw [List.getElem?_eq_none (by rw [restR_len, len]; omega), List.getElem?_eq_none (by omega)]
/-- [e for t in src if c], element and test told at each item -/
theorem lc_okI {α : Type} {g : α → D} {Φ : Str → Fn} {s : Sr} {t : Tg} {vs : List Nat} {c : Bx} {e : Ex} {f : α → D} {p : α → Bool} {S : List SO} {ρ : List Sl} {m0 : Mst} {ds : List α} (B : α → List Sl) (hs : evS Φ s m0 = .ok (ds.map g) ⟨ρ, S⟩) (mw : mayWipe vs ρ = true) (hv : ∀ j ∈ t.slots, j ∈ vs)
    (h1 : ∀ d ∈ ds, bindT t (g d) (wipeR vs ρ) = some (B d)) (h2 : ∀ d ∈ ds, wipeR vs (B d) = wipeR vs ρ) (h3 : ∀ d ∈ ds, evB Φ c ⟨B d, S⟩ = .ok (p d) ⟨B d, S⟩) (h4 : ∀ d ∈ ds, p d = true → evE Φ e ⟨B d, S⟩ = .ok (f d) ⟨B d, S⟩) (hz : ds.length ≤ sizeLine) :
    evN Φ (.lc s t vs c e) m0 = .ok (.lst ((ds.filter p).map f)) ⟨ρ, S⟩ := by
  rw [z_nlc]
  unfold lcM
  rw [z_bind, hs, Res.bind_ok]
  show (if mayWipe vs ρ = true ∧ (∀ j ∈ t.slots, j ∈ vs) then _ else _) = _
  rw [if_pos ⟨mw, hv⟩]
  obtain ⟨ρ4, e1, e2⟩ := lcL_map (acc := []) (ρ := ρ) h1 h2 h3 h4 (by simpa using hz) rfl
  rw [e1, Res.bind_ok, List.nil_append, rest_wipe e2 mw]
/-- .. without a test -/
theorem lc_mapI {α : Type} {g : α → D} {Φ : Str → Fn} {s : Sr} {t : Tg} {vs : List Nat} {e : Ex} {f : α → D} {S : List SO} {ρ : List Sl} {m0 : Mst} {ds : List α} (B : α → List Sl) (hs : evS Φ s m0 = .ok (ds.map g) ⟨ρ, S⟩) (mw : mayWipe vs ρ = true) (hv : ∀ j ∈ t.slots, j ∈ vs)
    (h1 : ∀ d ∈ ds, bindT t (g d) (wipeR vs ρ) = some (B d)) (h2 : ∀ d ∈ ds, wipeR vs (B d) = wipeR vs ρ) (h4 : ∀ d ∈ ds, evE Φ e ⟨B d, S⟩ = .ok (f d) ⟨B d, S⟩) (hz : ds.length ≤ sizeLine) :
    evN Φ (.lc s t vs .yes e) m0 = .ok (.lst (ds.map f)) ⟨ρ, S⟩ := by
  have := lc_okI (Φ := Φ) (c := .yes) (p := fun _ => true) B hs mw hv h1 h2 (fun d _ => z_byes ..) (fun d hd _ => h4 d hd) hz
  rwa [List.filter_eq_self.mpr (fun _ _ => rfl)] at this
theorem lc_map {Φ : Str → Fn} {s : Sr} {t : Tg} {vs : List Nat} {e : Ex} {f : D → D} {S : List SO} {ρ : List Sl} {m0 : Mst} {ds : List D} (B : D → List Sl) (hs : evS Φ s m0 = .ok ds ⟨ρ, S⟩) (mw : mayWipe vs ρ = true) (hv : ∀ j ∈ t.slots, j ∈ vs)
    (h1 : ∀ d ∈ ds, bindT t d (wipeR vs ρ) = some (B d)) (h2 : ∀ d ∈ ds, wipeR vs (B d) = wipeR vs ρ) (h4 : ∀ d ∈ ds, evE Φ e ⟨B d, S⟩ = .ok (f d) ⟨B d, S⟩) (hz : ds.length ≤ sizeLine) :
    evN Φ (.lc s t vs .yes e) m0 = .ok (.lst (ds.map f)) ⟨ρ, S⟩ := lc_mapI (g := fun d => d) B (by rw [hs, List.map_id']) mw hv h1 h2 h4 hz
/-! slices, pairs, ranges -/
theorem sIx_of {n d : Nat} {i : Int} (h : 0 ≤ i) : HT.sIx n d (some i) = min i.toNat n := by
  obtain ⟨k, rfl⟩ := Int.eq_ofNat_of_zero_le h
  exact HT.sIx_nat n d k
theorem cut_lo {l : List D} {i : Int} (h : 0 ≤ i) : cutD l (some i) none = l.drop i.toNat := by
  unfold cutD
  rw [sIx_of h, HT.sIx_none]
  by_cases c : i.toNat ≤ l.length
  · rw [Nat.min_eq_left c, List.take_of_length_le (by simp)]
  · rw [Nat.min_eq_right (by omega), List.drop_length, List.take_nil, List.drop_of_length_le (by omega)]
theorem cut_hi {l : List D} {i : Int} (h : 0 ≤ i) : cutD l none (some i) = l.take i.toNat := by
  unfold cutD
  rw [sIx_of h, HT.sIx_none, List.drop_zero, Nat.sub_zero]
  by_cases c : i.toNat ≤ l.length
  · rw [Nat.min_eq_left c]
  · rw [Nat.min_eq_right (by omega), List.take_length, List.take_of_length_le (by omega)]
theorem cut_mid {l : List D} {i j : Int} (h : 0 ≤ i) (hj : 0 ≤ j) : cutD l (some i) (some j) = (l.drop i.toNat).take (j.toNat - i.toNat) := by
  unfold cutD
  rw [sIx_of h, sIx_of hj]
  by_cases c : i.toNat ≤ l.length
  · rw [Nat.min_eq_left c]
    by_cases c2 : j.toNat ≤ l.length
    · rw [Nat.min_eq_left c2]
    · rw [Nat.min_eq_right (by omega), List.take_of_length_le (by simp), List.take_of_length_le (by simp; omega)]
  · have e : min i.toNat l.length = l.length := Nat.min_eq_right (by omega)
    rw [e, List.drop_length, List.take_nil, List.drop_of_length_le (by omega), List.take_nil]
theorem zipF_map {α β : Type} (f : α → D) (h : β → D) : ∀ (x : List α) (y : List β), zipF (x.map f) (y.map h) = (x.zip y).map fun p => .tup [f p.1, h p.2]
  | [], _ => by simp [zipF]
  | _ :: _, [] => by simp [zipF]
  | a :: x, b :: y => by simp [zipF, zipF_map f h x y]
theorem zipF_zip : ∀ (x y : List D), zipF x y = (x.zip y).map fun p => .tup [p.1, p.2]
  | [], _ => by simp [zipF]
  | _ :: _, [] => by simp [zipF]
  | a :: x, b :: y => by simp [zipF, zipF_zip x y]
theorem enumF_zip : ∀ (x : List D) (k : Nat), enumF k x = (x.zipIdx k).map fun p => .tup [.int (p.2 : Nat), p.1]
  | [], _ => rfl
  | a :: x, k => by simp [enumF, enumF_zip x (k + 1)]
theorem upTo_map (n : Nat) (lo : Int) : upTo lo 1 n = (List.range n).map fun (k : Nat) => .int (lo + (k : Int)) := by
  unfold upTo
  simp
@[simp] theorem z_rng1 {j : Int} (h : small62 j = true) : rngD [.int j] = some ((List.range j.toNat).map fun k => .int (k : Nat)) := by
  show (if small62 j = true then some (upTo 0 1 j.toNat) else none) = _
  rw [if_pos h, upTo_map]
  simp
@[simp] theorem z_opts {α : Type} (a : α) : Mo.opt (some a) = .ret a := rfl
/-! small things -/
@[simp] theorem z_trunc (l : List D) (S : List SO) : trunc S.length l S = S := trunc_self l S
@[simp] theorem z_rep0 {α : Type} (a : α) : List.replicate 0 a = [] := rfl
@[simp] theorem z_repS {α : Type} (n : Nat) (a : α) : List.replicate (n + 1) a = a :: List.replicate n a := rfl
@[simp] theorem z_isd (c : String) (d : D) : isiD c d = (tyD d).bind fun t => if t = c then some true else if (t = "bool" ∧ c = "int") then some true else if c ∈ ["int", "str", "bool", "tuple", "list", "dict"] then some false else none := rfl
@[simp] theorem z_tyn : tyD .non = some "NoneType" := rfl
@[simp] theorem z_tyb (b : Bool) : tyD (.bl b) = some "bool" := rfl
@[simp] theorem z_tyi (i : Int) : tyD (.int i) = some "int" := rfl
@[simp] theorem z_tys (x : Str) : tyD (.str x) = some "str" := rfl
@[simp] theorem z_tyt (l : List D) : tyD (.tup l) = some "tuple" := rfl
@[simp] theorem z_tyk (l : List D) : tyD (.ktp l) = some "tuple" := rfl
@[simp] theorem z_tyl (l : List D) : tyD (.lst l) = some "list" := rfl
@[simp] theorem z_tyd (t : Bool) (l : List (D × D)) : tyD (.dct t l) = some "dict" := rfl
@[simp] theorem z_tyc (l : List (Str × D)) : tyD (.kdc l) = some "dict" := rfl
end LB

namespace LB
open PySem L2 PyProof.Rows

/-! ### data of a bounded size -/
/-- data that can be laid (no dicts), or data that only repr is asked of (no lists, no dicts but empty ones) -/
def cl (c : Bool) (d : D) : Bool := if c then d.toP.canLay0 else rpB d
structure Tm (c : Bool) (n B : Nat) (d : D) : Prop where
  lay : cl c d = true
  dep : d.toP.depth ≤ n
  shw : d.toP.showable = true
  len : d.toP.shown.length ≤ B
  txt : PyData.strOk d.toP.shown = true
theorem strOk_app {x y : Str} (h : PyData.strOk x = true) (k : PyData.strOk y = true) : PyData.strOk (x ++ y) = true := by
  unfold PyData.strOk at *
  show (x.cps ++ y.cps).all (· < 0x110000) = true
  rw [Array.all_append, h, k]
  rfl
theorem strOk_join {sep : Str} (hs : PyData.strOk sep = true) : ∀ {l : List Str}, (∀ t ∈ l, PyData.strOk t = true) → PyData.strOk (Str.join sep l) = true
  | [], _ => (by decide +kernel : PyData.strOk (Str.join "" []) = true)
  | [t], h => h t List.mem_cons_self
  | t :: u :: r, h => by
    show PyData.strOk (t ++ sep ++ Str.join sep (u :: r)) = true
    exact strOk_app (strOk_app (h t List.mem_cons_self) hs) (strOk_join hs fun x hx => h x (List.mem_cons_of_mem _ hx))
theorem Tm.up {c : Bool} {n B n' B' : Nat} {d : D} (h : Tm c n B d) (h1 : n ≤ n') (h2 : B ≤ B') : Tm c n' B' d := ⟨h.lay, Nat.le_trans h.dep h1, h.shw, Nat.le_trans h.len h2, h.txt⟩
theorem Tm.shaped {n B : Nat} {d : D} (h : Tm true n B d) (hn : n ≤ 64) : SeqAt.shaped d.toP = true := by
  unfold SeqAt.shaped
  have l : d.toP.canLay0 = true := h.lay
  rw [l, decide_eq_true (Nat.le_trans h.dep hn)]
  rfl
mutual
theorem eqv_same : ∀ p : PyData, p.canLay0 = true → PyData.eqv p p = true
  | .none, _ => by simp only [PyData.eqv]
  | .bool b, _ => by simp only [PyData.eqv, beq_self_eq_true]
  | .int i, _ => by simp only [PyData.eqv, beq_self_eq_true]
  | .str x, _ => by simp only [PyData.eqv, beq_self_eq_true]
  | .list xs, h => by
    simp only [PyData.canLay0] at h
    simp only [PyData.eqv]
    exact eqvAll_same xs h
  | .tuple xs, h => by
    simp only [PyData.canLay0] at h
    simp only [PyData.eqv]
    exact eqvAll_same xs h
  | .dict _, h => by simp only [PyData.canLay0] at h; cases h
theorem eqvAll_same : ∀ xs : List PyData, PyData.canLayAll0 xs = true → PyData.eqvAll xs xs = true
  | [], _ => by simp only [PyData.eqvAll]
  | x :: xs, h => by
    simp only [PyData.canLayAll0, Bool.and_eq_true] at h
    simp only [PyData.eqvAll, eqv_same x h.1, eqvAll_same xs h.2, Bool.and_self]
end
theorem Tm.eq_same {n B : Nat} {d : D} (h : Tm true n B d) (hn : n ≤ 64) : eqD d d = some true := by
  unfold eqD
  rw [h.shaped hn, Bool.and_self, if_pos rfl, eqv_same _ (show d.toP.canLay0 = true from h.lay)]
theorem Tm.rep {c : Bool} {n B : Nat} {d : D} (h : Tm c n B d) (hn : n ≤ 64) (hB : B ≤ 16777216) : repD d = some d.toP.shown := by
  unfold repD
  have q : (SeqAt.shaped d.toP || (rpB d && decide (d.toP.depth ≤ 64))) = true := by
    cases c with
    | true => rw [h.shaped hn]; rfl
    | false =>
      have l : rpB d = true := h.lay
      rw [l, decide_eq_true (Nat.le_trans h.dep hn), Bool.true_and, Bool.or_true]
  rw [q, h.shw, decide_eq_true (Nat.le_trans h.len (by rw [sizeLine_eq]; exact hB))]
  rfl
def TmAll (c : Bool) (n B : Nat) (l : List D) : Prop := ∀ d ∈ l, Tm c n B d
theorem tmAll_txt {c : Bool} {n B : Nat} : ∀ {l : List D}, TmAll c n B l → ∀ t ∈ PyData.shownAll (D.toPs l), PyData.strOk t = true
  | [], _, t, h => by simp [D.toPs, PyData.shownAll] at h
  | d :: l, h, t, ht => by
    simp only [D.toPs, PyData.shownAll, List.mem_cons] at ht
    rcases ht with z | z
    · rw [z]; exact (h d List.mem_cons_self).txt
    · exact tmAll_txt (l := l) (fun x hx => h x (List.mem_cons_of_mem _ hx)) t z
theorem Tm.str_same {c : Bool} {n B : Nat} {d : D} (h : Tm c n B d) : eqD (.str d.toP.shown) (.str d.toP.shown) = some true := by
  have lay : (D.str d.toP.shown).toP.canLay0 = true := by simp only [D.toP, PyData.canLay0]; exact h.txt
  unfold eqD SeqAt.shaped
  rw [lay]
  simp only [D.toP, PyData.depth, Nat.zero_le, decide_true, Bool.and_self, if_true]
  exact congrArg some (eqv_same _ lay)
def cls' (c : Bool) (l : List D) : Bool := if c then PyData.canLayAll0 (D.toPs l) else rpsB l
theorem tmAll_toPs {k : Bool} {n B : Nat} : ∀ {l : List D}, TmAll k n B l → cls' k l = true ∧ PyData.depthAll (D.toPs l) ≤ n ∧ PyData.showableAll (D.toPs l) = true ∧ ((PyData.shownAll (D.toPs l)).map (·.length)).sum ≤ l.length * B ∧ (PyData.shownAll (D.toPs l)).length = l.length
  | [], _ => by cases k <;> simp [cls', rpsB, D.toPs, PyData.canLayAll0, PyData.depthAll, PyData.showableAll, PyData.shownAll]
  | d :: l, h => by
    have h1 := h d List.mem_cons_self
    obtain ⟨a, b, c, e, f⟩ := tmAll_toPs (l := l) fun x hx => h x (List.mem_cons_of_mem _ hx)
    have a' : cls' k (d :: l) = true := by
      have q := h1.lay
      cases k with
      | true =>
        simp only [cl, cls', if_true] at q a ⊢
        simp only [D.toPs, PyData.canLayAll0, q, a, Bool.and_self]
      | false =>
        simp only [cl, cls', Bool.false_eq_true, if_false] at q a ⊢
        simp only [rpsB, q, a, Bool.and_self]
    refine ⟨a', ?_⟩
    simp only [D.toPs, PyData.depthAll, PyData.showableAll, PyData.shownAll, h1.shw, c, Bool.and_self, List.map_cons, List.sum_cons, List.length_cons, f, true_and, and_true]
    refine ⟨Nat.max_le.mpr ⟨h1.dep, b⟩, ?_⟩
    have := h1.len
    rw [Nat.succ_mul]
    omega
theorem cls_tup {k : Bool} {l : List D} (h : cls' k l = true) : cl k (.tup l) = true := by
  cases k with
  | true => simp only [cl, cls', if_true] at h ⊢; simp only [D.toP, PyData.canLay0]; exact h
  | false => simp only [cl, cls', Bool.false_eq_true, if_false] at h ⊢; simp only [rpB]; exact h
theorem Tm.tup {k : Bool} {n B L : Nat} {l : List D} (h : TmAll k n B l) (hl : l.length ≤ L) : Tm k (n + 1) (L * B + 2 * L + 3) (.tup l) := by
  obtain ⟨a, b, c, e, f⟩ := tmAll_toPs h
  refine ⟨cls_tup a, by simp only [D.toP, PyData.depth]; omega, by simp only [D.toP, PyData.showable]; exact c, ?_, ?_⟩
  case refine_2 =>
    simp only [D.toP, PyData.shown]
    unfold tupleText
    refine strOk_app (strOk_app (by decide +kernel) (strOk_join (by decide +kernel) (tmAll_txt h))) ?_
    split
    · exact (by decide +kernel : PyData.strOk (",)" : Str) = true)
    · exact (by decide +kernel : PyData.strOk (")" : Str) = true)
  simp only [D.toP, PyData.shown]
  unfold tupleText
  have j := StrLaws.join_length_le ", " (PyData.shownAll (D.toPs l))
  have s2 : (", " : Str).length = 2 := by decide +kernel
  have s1 : ("(" : Str).length = 1 := by decide +kernel
  have s3 : (((if (PyData.shownAll (D.toPs l)).length == 1 then ",)" else ")") : String) : Str).length ≤ 2 := by
    split
    · exact (by decide +kernel : ((",)" : Str)).length ≤ 2)
    · exact (by decide +kernel : ((")" : Str)).length ≤ 2)
  rw [strLen_append, strLen_append, s1]
  rw [s2, f] at j
  have q := Nat.mul_le_mul_right B hl
  omega
theorem textFrom_ok : ∀ (ts : List Str) (k : Nat) (acc : Str), PyData.strOk acc = true → (∀ t ∈ ts, PyData.strOk t = true) → PyData.strOk (textFrom k acc ts) = true
  | [], _, _, h, _ => h
  | t :: ts, k, acc, h, g => by
    show PyData.strOk (textFrom (k + 1) (acc ++ (if k > 0 then ", " else "" : String) ++ t) ts) = true
    refine textFrom_ok ts _ _ (strOk_app (strOk_app h ?_) (g t List.mem_cons_self)) fun x hx => g x (List.mem_cons_of_mem _ hx)
    split
    · exact (by decide +kernel : PyData.strOk (", " : Str) = true)
    · exact (by decide +kernel : PyData.strOk ("" : Str) = true)
theorem Tm.lst {n B L : Nat} {l : List D} (h : TmAll true n B l) (hl : l.length ≤ L) : Tm true (n + 1) (L * B + 2 * L + 3) (.lst l) := by
  obtain ⟨a, b, c, e, f⟩ := tmAll_toPs h
  have a' : PyData.canLayAll0 (D.toPs l) = true := a
  refine ⟨by show PyData.canLay0 _ = true; simp only [D.toP, PyData.canLay0]; exact a', by simp only [D.toP, PyData.depth]; omega, by simp only [D.toP, PyData.showable]; exact c, ?_, ?_⟩
  · simp only [D.toP, PyData.shown]
    show (textFrom 0 "[" (PyData.shownAll (D.toPs l)) ++ ("]" : Str)).length ≤ _
    have j := textFrom_len_le (PyData.shownAll (D.toPs l)) 0 "["
    have s1 : ("[" : Str).length = 1 := by decide +kernel
    have s3 : ("]" : Str).length = 1 := by decide +kernel
    rw [strLen_append, s3]
    rw [s1, f] at j
    have q := Nat.mul_le_mul_right B hl
    omega
  · simp only [D.toP, PyData.shown]
    show PyData.strOk (textFrom 0 "[" (PyData.shownAll (D.toPs l)) ++ ("]" : Str)) = true
    exact strOk_app (textFrom_ok _ _ _ (by decide +kernel) (tmAll_txt h)) (by decide +kernel)
theorem tm_small (c : Bool) : ∀ i : Int, 0 ≤ i → i < 100 → Tm c 0 2 (.int i) := by
  have key : ∀ k : Fin 100, (toString (k.val : Int) : Str).length ≤ 2 := by decide +kernel
  have key2 : ∀ k : Fin 100, PyData.strOk (toString (k.val : Int) : Str) = true := by decide +kernel
  intro i h1 h2
  obtain ⟨k, rfl⟩ := Int.eq_ofNat_of_zero_le h1
  refine ⟨by cases c <;> rfl, Nat.le_refl _, ?_, ?_, ?_⟩
  case refine_3 =>
    simp only [D.toP, PyData.shown]
    exact key2 ⟨k, by omega⟩
  · simp only [D.toP, PyData.showable, decide_eq_true_eq]
    have : ((k : Int)).natAbs.log2 ≤ 7 := by
      have q : (k : Int).natAbs = k := rfl
      rw [q]
      by_cases z : k = 0
      · subst z; decide
      · exact Nat.le_of_lt_succ ((Nat.log2_lt z).mpr (by omega))
    omega
  · simp only [D.toP, PyData.shown]
    exact key ⟨k, by omega⟩
theorem tm_non (c : Bool) : Tm c 0 4 .non := ⟨by cases c <;> rfl, Nat.le_refl _, rfl, by decide +kernel, by decide +kernel⟩
theorem tm_bl (c : Bool) (b : Bool) : Tm c 0 5 (.bl b) := ⟨by cases c <;> rfl, Nat.le_refl _, rfl, by cases b <;> decide +kernel, by cases b <;> decide +kernel⟩
theorem tm_dct : Tm false 1 2 (.dct false []) := ⟨rfl, by decide +kernel, rfl, by decide +kernel, by decide +kernel⟩
end LB

namespace LB
open PySem L2 PyProof.Rows
/-! ### names of the head -/
theorem mc_at {K : PySem.W.Frag} {w : World} {h : Heap} {mg : Str → Option Value} (X : K.In h) (G : h.Ns mainGlobals mg) {x : Str} {d : D} (e : mcB K x d = true) : ∃ v u, mg x = some u ∧ RelV v u ∧ ∀ G μ N, DV ⟨K, w, mg⟩ G μ N d v := by
  unfold mcB at e
  split at e
  · rename_i u q
    obtain ⟨v, r, k⟩ := dcB_ok (w := w) (mg := mg) 9 u d e
    exact ⟨v, u, PySem.W.mg_of X G q, r, k⟩
  · cases e
theorem kd_at {K : PySem.W.Frag} {w : World} {mg : Str → Option Value} {x : Str} {a : Addr} {es : Array DictEntry} {n : Nat} {kvs : List (Str × D)} (hm : mg x = some (.ref a)) (k : KDict K w a es n) (e : kdB K a kvs = true) : ∃ v u, mg x = some u ∧ RelV v u ∧ ∀ G μ N, DV ⟨K, w, mg⟩ G μ N (.kdc kvs) v := by
  refine ⟨.ref a, .ref a, hm, rfl, fun G μ N => .kd k ?_⟩
  unfold kdB at e
  rw [k.at_] at e
  exact esB_ok es.toList kvs e G μ N
end LB

namespace LB
open PySem L2 PyProof.Rows PySem.Spec
/-! ### what is asked of the head about classes -/
/-- a class of objects -/
def insFa (c : Str) : List He.Fa := .cls c :: fldNames.map fun f => .noat c f
theorem ins_ok {K : PySem.W.Frag} {c : Str} (h : ∀ f ∈ insFa c, f.ok K = true) : InsOk K (He.ga K c) :=
  ⟨He.cls_ok (h _ List.mem_cons_self), fun f hf => He.noat_ok (h _ (List.mem_cons_of_mem _ (List.mem_map.mpr ⟨f, hf, rfl⟩)))⟩
theorem exmk_ok {K : PySem.W.Frag} {c : Str} (h : (He.Fa.exc c).ok K = true) : ExMk K (He.ga K c) := by
  obtain ⟨h1, h2, h3, h4⟩ := He.exc_ok h
  exact ⟨h1, h2, h3, h4⟩
def exccB (K : PySem.W.Frag) (C : Addr) : Bool := He.eqO (PySem.W.findIn K (.ref C) "__getattribute__") (some (some (.builtin "BaseException.__getattribute__"))) && (He.eqO (PySem.W.findIn K (.ref C) "__getattr__") (some none) && (decide (PySem.W.subIn K (.ref C) (.type "BaseException") = some true) && (PySem.W.hasDictIn K C &&
  (He.eqO (PySem.W.findIn K (.ref C) "__class__") (some (some (.builtin "object.__class__"))) && (He.eqO (PySem.W.specialIn K (.builtin "object.__class__") "__get__") (some (some (.builtin "getset_descriptor.__get__"))) && (decide (PySem.W.takesIn K (.builtin "object.__class__") = some true) && decide (PySem.W.mroIn K C (.type "object") = some true)))))))
theorem excc_ok {K : PySem.W.Frag} {C : Addr} (h : exccB K C = true) : ExcC K C := by
  unfold exccB at h
  simp only [Bool.and_eq_true, decide_eq_true_eq] at h
  obtain ⟨h1, h2, h3, h4, h5, h6, h7, h8⟩ := h
  exact ⟨He.eqO_ok h1, He.eqO_ok h2, h3, h4, He.eqO_ok h5, He.eqO_ok h6, h7, h8⟩
theorem xfc_ok {K : PySem.W.Frag} {C : Addr} (h : exccB K C = true) : XfC K C := by
  have q := excc_ok h
  exact ⟨q.hg, q.hk, q.hs, q.hd⟩
def clsV (K : PySem.W.Frag) (c : Str) : Value := if c = ("ValueError" : Str) then .type "ValueError" else .ref (He.ga K c)
def subB (K : PySem.W.Frag) (c c' : Str) (b : Bool) : Bool := decide (PySem.W.kitOne K (.ref (He.ga K c)) (clsV K c') = some b) && decide (PySem.W.exmOne K (.ref (He.ga K c)) (clsV K c') = some b)
theorem sub_ok {K : PySem.W.Frag} {mg : Str → Option Value} {c c' : Str} {b : Bool} (h : subB K c c' b = true) (hc : exccB K (He.ga K c) = true) (m1 : mg c = some (.ref (He.ga K c))) (m2 : if c' = ("ValueError" : Str) then mg c' = none else mg c' = some (.ref (He.ga K c'))) : SubAt K mg c c' b := by
  unfold subB at h
  simp only [Bool.and_eq_true, decide_eq_true_eq] at h
  refine ⟨_, clsV K c', m1, excc_ok hc, ?_, h.1, h.2⟩
  unfold clsV ClsAt
  by_cases e : c' = ("ValueError" : Str)
  · rw [if_pos e] at m2 ⊢
    exact .inr ⟨e, rfl, m2⟩
  · rw [if_neg e] at m2 ⊢
    exact .inl ⟨_, rfl, m2⟩
def oexB (K : PySem.W.Frag) (C : Addr) : Bool := (match K.lookup C with
  | some ⟨.type "type", _, .cls cd, sl⟩ => (match cd.mro, sl.toList with
    | .ref C' :: bm, [_, _, _, _, some (.builtin n), _] => decide (C' = C) && (n == "ValueError.__new__" && (!cd.hasDel && (cd.hasDict && PySem.HandSPX.refsVE bm)))
    | _, _ => false)
  | _ => false) && (He.eqO (PySem.W.findIn K (.ref C) "__setattr__") (some (some (.builtin "object.__setattr__"))) && (decide (PySem.W.subIn K (.ref C) (.type "BaseException") = some true) && (decide (PySem.W.typeIn K (.ref C) = some (.type "type")) && PySem.W.keepIn K (.ref C))))
theorem oex_ok {K : PySem.W.Frag} {C : Addr} (h : oexB K C = true) : OexC K C := by
  unfold oexB at h
  rw [Bool.and_eq_true] at h
  obtain ⟨h0, h⟩ := h
  simp only [Bool.and_eq_true, decide_eq_true_eq] at h
  obtain ⟨h1, h2, h3, h4⟩ := h
  refine ⟨?_, He.eqO_ok h1, h2, h3, h4⟩
  split at h0
  · rename_i dd cd sl ho
    split at h0
    · rename_i C' bm k0 k1 k2 k3 n k5 hm hs
      simp only [Bool.and_eq_true, decide_eq_true_eq, beq_iff_eq, Bool.not_eq_true'] at h0
      obtain ⟨rfl, rfl, hdel, hdct, hv⟩ := h0
      obtain ⟨nm, bs, mro, ns, qn, hd, sn, sub, ab, col, del⟩ := cd
      dsimp only at hm hdel hdct
      subst hm hdel hdct
      have hsl : sl = #[k0, k1, k2, k3, some (.builtin "ValueError.__new__"), k5] := by
        obtain ⟨l⟩ := sl
        simp only at hs
        rw [hs]
      subst hsl
      exact ⟨nm, qn, ns, bs, bm, sn, sub, ab, col, dd, k0, k1, k2, k3, k5, ho, hv⟩
    · cases h0
  · cases h0
def iniB (K : PySem.W.Frag) (CB : Addr) : Bool := PySem.W.readsIn K CB (.type "type") && (He.eqO (PySem.W.specialIn K (.ref CB) "__getattribute__") (some (some (.builtin "type.__getattribute__"))) && (match PySem.W.findCls K (.ref CB) (.type "type") "__init__" with
  | some (.val (.builtin s)) => s == "ValueError.__init__"
  | _ => false))
theorem ini_ok {K : PySem.W.Frag} {CB : Addr} (h : iniB K CB = true) : PySem.W.readsIn K CB (.type "type") = true ∧ PySem.W.specialIn K (.ref CB) "__getattribute__" = some (some (.builtin "type.__getattribute__")) ∧ PySem.W.findCls K (.ref CB) (.type "type") "__init__" = some (.val (.builtin "ValueError.__init__")) := by
  unfold iniB at h
  rw [Bool.and_eq_true, Bool.and_eq_true] at h
  obtain ⟨h1, h2, h3⟩ := h
  refine ⟨h1, He.eqO_ok h2, ?_⟩
  split at h3
  · rename_i s e
    rw [e, beq_iff_eq.mp h3]
  · cases h3
/-- a class with an __init__ that keeps a field -/
def exiB (K : PySem.W.Frag) (c f : Str) : Bool := oexB K (He.ga K c) && (He.eqO (PySem.W.findIn K (.ref (He.ga K c)) f) (some none) && (He.eqO (PySem.W.findIn K (.ref (He.ga K c)) "__init__") (some (some (.ref (He.ma K (He.ga K c) "__init__")))) && (decide (PySem.W.typeIn K (.ref (He.ma K (He.ga K c) "__init__")) = some (.type "function")) && exccB K (He.ga K c))))
theorem exi_ok {P : Program} {w : World} {K : PySem.W.Frag} {mg : Str → Option Value} {base : Heap} {c f : Str} {fd : FuncData} {ps : List Str} (h : exiB K c f = true) (F : FnOk P w K mg base (L2.CX P w) 1 (He.ma K (He.ga K c) "__init__") fd ps (spI K f)) (hb : Binds K fd ps []) : ExIn P w K mg base (He.ga K c) f := by
  unfold exiB at h
  simp only [Bool.and_eq_true, decide_eq_true_eq] at h
  obtain ⟨h1, h2, h3, h4, _⟩ := h
  exact ⟨oex_ok h1, He.eqO_ok h2, _, fd, ps, He.eqO_ok h3, h4, F, hb⟩
theorem exi_xf {K : PySem.W.Frag} {c f : Str} (h : exiB K c f = true) : XfC K (He.ga K c) := by
  unfold exiB at h
  simp only [Bool.and_eq_true] at h
  exact xfc_ok h.2.2.2.2
/-! the written part, with the statics: what the module's names reach, and these -/
def keepY (g : Addr → Option Obj) (n : Nat) : PySem.W.Frag := He.frT g (He.asD g n ++ [cStatics])
def obsY (n : Nat) (fa : List He.Fa) (fn : List He.DefD) (ts : List He.Tab) (ex : PySem.W.Frag → Bool) (g : Addr → Option Obj) : He.AlX := (He.obsT fa fn ts (keepY g n), ex (keepY g n))
structure SaysY (fa : List He.Fa) (fn : List He.DefD) (ts : List He.Tab) (ex : PySem.W.Frag → Bool) (w : World) (K : PySem.W.Frag) : Prop where
  t : He.SaysT fa fn ts w K
  more : ex K = true
def hookY (n : Nat) (fa : List He.Fa) (fn : List He.DefD) (ts : List He.Tab) (ex : PySem.W.Frag → Bool) : PySem.W.Hook where
  α := He.AlX
  obs := fun s => obsY n fa fn ts ex s.heap.get?
  val := fun w => He.valX fn ts w
  says := fun w h => ∃ K : PySem.W.Frag, K.In h ∧ SaysY fa fn ts ex w K
  of := fun _ _ e => ⟨_, He.frT_in, ⟨congrArg (fun z : He.AlX => z.1) e, congrArg (fun z : He.AlX => z.2) e⟩⟩
  keeps := fun _ _ _ ⟨K, hK, c⟩ k => ⟨K, PySem.W.Frag.In.keeps hK k, c⟩
theorem obsY_eq {n : Nat} {fa : List He.Fa} {fn : List He.DefD} {ts : List He.Tab} {ex : PySem.W.Frag → Bool} {g : Addr → Option Obj} {s : Shared} (h : ∀ a, g a = s.heap.get? a) : obsY n fa fn ts ex g = (hookY n fa fn ts ex).obs s := by
  have e : g = s.heap.get? := funext h
  rw [e] <;> rfl
end LB

namespace LB
open PySem
def b_is_among : Sxs := (.cons (.ret (.and (.isi "int" (.v 0)) (.and (.nt (.isi "bool" (.v 0))) (.ch .le .le (.v 1) (.v 0) (.v 2))))) .nil)
def b_is_word : Sxs := (.cons (.ret (.call "is_among" (.cons (.v 0) (.cons (.k (.int 0)) (.cons (.mc (.int 15)) .nil))))) .nil)
def c1_are_words : Nx := (.lc (.seq (.v 0)) (.nm 2) [2] .yes (.call "is_word" (.cons (.v 2) .nil)))
def b_are_words : Sxs := (.cons (.ret (.and (.isi "tuple" (.v 0)) (.and (.cmp .eq (.b1 .len (.v 0)) (.v 1)) (.b1 .all (.nw c1_are_words))))) .nil)
def c1_is_world : Nx := (.lc (.seq (.ix (.v 0) (.k (.int 1)))) (.nm 1) [1] .yes (.call "are_words" (.cons (.v 1) (.cons (.mc (.int 16)) .nil))))
def b_is_world : Sxs := (.cons (.ifs (.or (.nt (.tru (.isi "tuple" (.v 0)))) (.or (.cmp .ne (.b1 .len (.v 0)) (.k (.int 2))) (.nt (.tru (.call "are_words" (.cons (.ix (.v 0) (.k (.int 0))) (.cons (.mc (.int 32)) .nil))))))) (.cons (.ret (.k (.bl false))) .nil) .nil) (.cons (.ifs (.or (.nt (.tru (.isi "tuple" (.ix (.v 0) (.k (.int 1)))))) (.cmp .ne (.b1 .len (.ix (.v 0) (.k (.int 1)))) (.mc (.int 4)))) (.cons (.ret (.k (.bl false))) .nil) .nil) (.cons (.ret (.b1 .all (.nw c1_is_world))) .nil)))
def c1_is_rising : Nx := (.lc (.seq (.v 0)) (.nm 2) [2] .yes (.call "is_among" (.cons (.v 2) (.cons (.k (.int 0)) (.cons (.bop .sub (.v 1) (.k (.int 1))) .nil)))))
def c2_is_rising : Nx := (.lc (.zz (.cons (.v 0) (.cons (.sl (.v 0) (.some (.k (.int 1))) .no) .nil))) (.tp (.cons (.nm 3) (.cons (.nm 4) .nil))) [3, 4] .yes (.cmp .lt (.v 3) (.v 4)))
def b_is_rising : Sxs := (.cons (.ifs (.or (.nt (.tru (.isi "tuple" (.v 0)))) (.nt (.tru (.b1 .all (.nw c1_is_rising))))) (.cons (.ret (.k (.bl false))) .nil) .nil) (.cons (.ret (.b1 .all (.nw c2_is_rising))) .nil))
def b_is_hidden : Sxs := (.cons (.ifs (.or (.nt (.tru (.isi "tuple" (.v 0)))) (.cmp .ne (.b1 .len (.v 0)) (.k (.int 2)))) (.cons (.ret (.k (.bl false))) .nil) .nil) (.cons (.ret (.and (.call "is_rising" (.cons (.ix (.v 0) (.k (.int 0))) (.cons (.mc (.int 32)) .nil))) (.call "is_rising" (.cons (.ix (.v 0) (.k (.int 1))) (.cons (.mc (.int 4)) .nil))))) .nil))
def c1_is_make : Nx := (.lc (.zz (.cons (.v 0) (.cons (.mc (.ktp [(.int 4), (.int 9), (.int 9), (.int 4), (.int 1)])) .nil))) (.tp (.cons (.nm 1) (.cons (.nm 2) .nil))) [1, 2] .yes (.call "is_among" (.cons (.v 1) (.cons (.k (.int 0)) (.cons (.v 2) .nil)))))
def b_is_make : Sxs := (.cons (.ifs (.or (.nt (.tru (.isi "tuple" (.v 0)))) (.cmp .ne (.b1 .len (.v 0)) (.b1 .len (.mc (.ktp [(.int 4), (.int 9), (.int 9), (.int 4), (.int 1)]))))) (.cons (.ret (.k (.bl false))) .nil) .nil) (.cons (.ret (.b1 .all (.nw c1_is_make))) .nil))
def b__law_mixed : Sxs := (.cons (.setb 2 .mod (.ix (.bop .add (.v 0) (.nw (.lst (.cons (.k (.int 0)) .nil)))) (.bop .mod (.v 1) (.mn2 true (.k (.int 1)) (.b1 .len (.v 0))))) (.bop .pow (.k (.int 10)) (.k (.int 60)))) (.cons (.setb 3 .add (.k (.int 91520834467120936671528473920164857)) (.bop .mul (.k (.int 2)) (.v 1))) (.cons (.ret (.bop .mod (.bop .mul (.bop .add (.bop .add (.v 2) (.k (.int 1))) (.bop .mul (.bop .mul (.k (.int 1009)) (.v 1)) (.v 1))) (.v 3)) (.k (.int 170141183460469231731687303715884105727)))) .nil)))
def b__law_turned : Sxs := (.cons (.asg (.nm 2) (.ix (.nw (.lst (.cons (.k (.int 73029184756102938475610293847561029)) (.cons (.k (.int 58203947561830297465018273645019283)) .nil)))) (.bop .mod (.v 1) (.k (.int 2))))) (.cons (.ifs (.cmp .gt (.bop .mod (.v 1) (.k (.int 4))) (.k (.int 1))) (.cons (.asg (.nm 2) (.ix (.nw (.lst (.cons (.k (.int 99182736455463728190019283746556473)) (.cons (.k (.int 31415926535897932384626433832795029)) .nil)))) (.bop .mod (.v 1) (.k (.int 2))))) .nil) .nil) (.cons (.ret (.bop .mod (.bop .mul (.bop .add (.bop .add (.v 0) (.k (.int 1))) (.bop .mul (.bop .mul (.k (.int 5081)) (.v 1)) (.v 1))) (.v 2)) (.k (.int 170141183460469231731687303715884105727)))) .nil)))
def c1__law_world : Nx := (.lc (.rng (.cons (.k (.int 32)) .nil)) (.nm 3) [3] .yes (.bop .mod (.bop .fdiv (.call "_law_turned" (.cons (.v 0) (.cons (.v 3) .nil))) (.k (.int 7))) (.k (.int 16))))
def c2__law_world : Nx := (.lc (.rng (.cons (.k (.int 16)) .nil)) (.nm 3) [3] .yes (.bop .mod (.bop .fdiv (.call "_law_turned" (.cons (.v 0) (.cons (.bop .add (.bop .add (.k (.int 40)) (.bop .mul (.k (.int 16)) (.v 4))) (.v 3)) .nil))) (.k (.int 7))) (.k (.int 16))))
def c3__law_world : Nx := (.lc (.rng (.cons (.k (.int 4)) .nil)) (.nm 4) [4] .yes (.b1 .tuple (.nw c2__law_world)))
def b__law_world : Sxs := (.cons (.asg (.nm 1) (.b1 .tuple (.nw c1__law_world))) (.cons (.own 2 c3__law_world) (.cons (.ret (.tup (.cons (.v 1) (.cons (.b1 .tuple (.v 2)) .nil)))) .nil)))
def c1__law_hidden : Nx := (.lc (.rng (.cons (.k (.int 32)) .nil)) (.nm 3) [3] (.cmp .eq (.bop .mod (.bop .fdiv (.call "_law_turned" (.cons (.v 0) (.cons (.bop .add (.k (.int 2)) (.v 3)) .nil))) (.k (.int 5))) (.v 1)) (.k (.int 0))) (.v 3))
def c2__law_hidden : Nx := (.lc (.rng (.cons (.k (.int 4)) .nil)) (.nm 4) [4] (.cmp .eq (.bop .mod (.bop .fdiv (.call "_law_turned" (.cons (.v 0) (.cons (.bop .add (.k (.int 40)) (.v 4)) .nil))) (.k (.int 5))) (.k (.int 2))) (.k (.int 0))) (.v 4))
def b__law_hidden : Sxs := (.cons (.asg (.nm 1) (.ix (.nw (.lst (.cons (.k (.int 1)) (.cons (.k (.int 2)) (.cons (.k (.int 3)) (.cons (.k (.int 16)) .nil)))))) (.bop .mod (.bop .fdiv (.v 0) (.k (.int 3))) (.k (.int 4))))) (.cons (.asg (.nm 2) (.b1 .tuple (.nw c1__law_hidden))) (.cons (.ret (.tup (.cons (.v 2) (.cons (.b1 .tuple (.nw c2__law_hidden)) .nil)))) .nil)))
def c1__law_make : Nx := (.lc (.en (.cons (.v 1) .nil)) (.tp (.cons (.nm 3) (.cons (.nm 4) .nil))) [3, 4] .yes (.bop .mod (.bop .fdiv (.call "_law_turned" (.cons (.v 0) (.cons (.v 3) .nil))) (.k (.int 5))) (.bop .add (.v 4) (.k (.int 1)))))
def c2__law_make : Nx := (.lc (.en (.cons (.v 1) .nil)) (.tp (.cons (.nm 3) (.cons (.nm 4) .nil))) [3, 4] .yes (.ix (.nw (.lst (.cons (.ix (.v 2) (.v 3)) (.cons (.v 4) (.cons (.k (.int 0)) .nil))))) (.bop .fdiv (.bop .mod (.bop .fdiv (.call "_law_turned" (.cons (.v 0) (.cons (.bop .add (.k (.int 9)) (.v 3)) .nil))) (.k (.int 7))) (.k (.int 5))) (.k (.int 2)))))
def b__law_make : Sxs := (.cons (.asg (.nm 1) (.tup (.cons (.k (.int 4)) (.cons (.k (.int 9)) (.cons (.k (.int 9)) (.cons (.k (.int 4)) (.cons (.k (.int 1)) .nil))))))) (.cons (.own 2 c1__law_make) (.cons (.ret (.b1 .tuple (.nw c2__law_make))) .nil)))
def b__law_bent : Sxs := (.cons (.setb 2 .mod (.bop .fdiv (.v 1) (.k (.int 3))) (.mn2 true (.k (.int 1)) (.b1 .len (.v 0)))) (.cons (.asg (.nm 3) (.ix (.nw (.lst (.cons (.k .non) (.cons (.k (.bl true)) (.cons (.k (.str "1")) (.cons (.neg (.k (.int 1))) (.cons (.k (.int 16)) (.cons (.k (.int 32)) (.cons (.k (.int 10)) (.cons (.k (.int 5)) (.cons (.k (.int 4)) (.cons (.k (.int 2)) (.cons (.tup .nil) (.cons (.nw (.lst .nil)) (.cons (.nw (.dct0 false)) (.cons (.bop .pow (.k (.int 10)) (.k (.int 30))) (.cons (.k (.str "")) (.cons (.tup (.cons (.k (.int 0)) .nil)) .nil)))))))))))))))))) (.bop .mod (.bop .fdiv (.v 1) (.k (.int 70))) (.k (.int 16))))) (.cons (.setb 4 .mod (.bop .fdiv (.v 1) (.k (.int 11))) (.k (.int 7))) (.cons (.ifs (.cmp .lt (.v 4) (.k (.int 2))) (.cons (.ret (.bop .add (.bop .add (.sl (.v 0) .no (.some (.v 2))) (.tup (.cons (.v 3) .nil))) (.sl (.v 0) (.some (.bop .add (.v 2) (.k (.int 1)))) .no))) .nil) .nil) (.cons (.ifs (.cmp .eq (.v 4) (.k (.int 2))) (.cons (.ret (.bop .add (.sl (.v 0) .no (.some (.v 2))) (.sl (.v 0) (.some (.bop .add (.v 2) (.k (.int 1)))) .no))) .nil) .nil) (.cons (.ifs (.cmp .eq (.v 4) (.k (.int 3))) (.cons (.ret (.bop .add (.bop .add (.sl (.v 0) .no (.some (.v 2))) (.sl (.v 0) (.some (.v 2)) (.some (.bop .add (.v 2) (.k (.int 1)))))) (.sl (.v 0) (.some (.v 2)) .no))) .nil) .nil) (.cons (.ifs (.cmp .eq (.v 4) (.k (.int 4))) (.cons (.ret (.bop .add (.bop .add (.sl (.v 0) .no (.some (.v 2))) (.rv (.sl (.v 0) (.some (.v 2)) (.some (.bop .add (.v 2) (.k (.int 2))))))) (.sl (.v 0) (.some (.bop .add (.v 2) (.k (.int 2)))) .no))) .nil) .nil) (.cons (.ret (.ix (.nw (.lst (.cons (.nw (.list (.v 0))) (.cons (.bop .add (.v 0) (.tup (.cons (.bop .mod (.bop .fdiv (.v 1) (.k (.int 70))) (.k (.int 9))) .nil))) .nil)))) (.bop .sub (.v 4) (.k (.int 5))))) .nil))))))))
def b__law_bent_within : Sxs := (.cons (.setb 2 .mod (.bop .fdiv (.v 1) (.k (.int 5))) (.b1 .len (.v 0))) (.cons (.ifs (.or (.cmp .eq (.bop .mod (.bop .fdiv (.v 1) (.k (.int 7))) (.k (.int 4))) (.k (.int 0))) (.nt (.tru (.isi "tuple" (.ix (.v 0) (.v 2)))))) (.cons (.ret (.call "_law_bent" (.cons (.v 0) (.cons (.call "_law_turned" (.cons (.v 1) (.cons (.k (.int 1)) .nil))) .nil)))) .nil) .nil) (.cons (.asg (.nm 3) (.ix (.v 0) (.v 2))) (.cons (.ifs (.and (.cmp .ne (.v 3) (.tup .nil)) (.tru (.isi "tuple" (.ix (.v 3) (.k (.int 0)))))) (.cons (.setb 4 .mod (.bop .fdiv (.v 1) (.k (.int 50))) (.b1 .len (.v 3))) (.cons (.setb 3 .add (.bop .add (.sl (.v 3) .no (.some (.v 4))) (.tup (.cons (.call "_law_bent" (.cons (.ix (.v 3) (.v 4)) (.cons (.call "_law_turned" (.cons (.v 1) (.cons (.k (.int 2)) .nil))) .nil))) .nil))) (.sl (.v 3) (.some (.bop .add (.v 4) (.k (.int 1)))) .no)) .nil)) (.cons (.asg (.nm 3) (.call "_law_bent" (.cons (.v 3) (.cons (.call "_law_turned" (.cons (.v 1) (.cons (.k (.int 2)) .nil))) .nil)))) .nil)) (.cons (.ret (.bop .add (.bop .add (.sl (.v 0) .no (.some (.v 2))) (.tup (.cons (.v 3) .nil))) (.sl (.v 0) (.some (.bop .add (.v 2) (.k (.int 1)))) .no))) .nil)))))
def c1__law_truths : Nx := (.lc (.seq (.v 0)) (.nm 1) [1] .yes (.call "_law_truths" (.cons (.v 1) .nil)))
def b__law_truths : Sxs := (.cons (.ifs (.tru (.isi "tuple" (.v 0))) (.cons (.ret (.b1 .tuple (.nw c1__law_truths))) .nil) .nil) (.cons (.ret (.ite (.cmp .lt (.v 0) (.k (.int 2))) (.cmp .eq (.v 0) (.k (.int 1))) (.v 0))) .nil))
def c1__law_numbers : Nx := (.lc (.seq (.v 0)) (.nm 3) [3] .yes (.or (.isi "bool" (.v 3)) (.nt (.isi "int" (.v 3)))))
def c2__law_numbers : Nx := (.lc (.seq (.v 0)) (.nm 3) [3] .yes (.ch .le .le (.v 1) (.v 3) (.v 2)))
def b__law_numbers : Sxs := (.cons (.ifs (.nt (.tru (.isi "tuple" (.v 0)))) (.cons (.ret (.k (.bl false))) .nil) .nil) (.cons (.ifs (.cmp .isin (.k (.bl true)) (.nw c1__law_numbers)) (.cons (.ret (.k (.bl false))) .nil) .nil) (.cons (.ret (.b1 .all (.nw c2__law_numbers))) .nil)))
def c1__law_is_world : Nx := (.lc (.seq (.ix (.v 0) (.k (.int 1)))) (.nm 1) [1] .yes (.and (.call "_law_numbers" (.cons (.v 1) (.cons (.k (.int 0)) (.cons (.k (.int 15)) .nil)))) (.cmp .eq (.b1 .len (.v 1)) (.k (.int 16)))))
def b__law_is_world : Sxs := (.cons (.ifs (.or (.nt (.tru (.isi "tuple" (.v 0)))) (.cmp .ne (.b1 .len (.v 0)) (.k (.int 2)))) (.cons (.ret (.k (.bl false))) .nil) .nil) (.cons (.ifs (.or (.nt (.tru (.call "_law_numbers" (.cons (.ix (.v 0) (.k (.int 0))) (.cons (.k (.int 0)) (.cons (.k (.int 15)) .nil)))))) (.cmp .ne (.b1 .len (.ix (.v 0) (.k (.int 0)))) (.k (.int 32)))) (.cons (.ret (.k (.bl false))) .nil) .nil) (.cons (.ifs (.or (.nt (.tru (.isi "tuple" (.ix (.v 0) (.k (.int 1)))))) (.cmp .ne (.b1 .len (.ix (.v 0) (.k (.int 1)))) (.k (.int 4)))) (.cons (.ret (.k (.bl false))) .nil) .nil) (.cons (.ret (.b1 .all (.nw c1__law_is_world))) .nil))))
def c1__law_is_hidden : Nx := (.lc (.seq (.v 0)) (.nm 1) [1] .yes (.cmp .eq (.nw (.sset (.v 1))) (.nw (.list (.v 1)))))
def b__law_is_hidden : Sxs := (.cons (.ifs (.or (.nt (.tru (.isi "tuple" (.v 0)))) (.cmp .ne (.b1 .len (.v 0)) (.k (.int 2)))) (.cons (.ret (.k (.bl false))) .nil) .nil) (.cons (.ifs (.or (.nt (.tru (.call "_law_numbers" (.cons (.ix (.v 0) (.k (.int 0))) (.cons (.k (.int 0)) (.cons (.k (.int 31)) .nil)))))) (.nt (.tru (.call "_law_numbers" (.cons (.ix (.v 0) (.k (.int 1))) (.cons (.k (.int 0)) (.cons (.k (.int 3)) .nil))))))) (.cons (.ret (.k (.bl false))) .nil) .nil) (.cons (.ret (.b1 .all (.nw c1__law_is_hidden))) .nil)))
def c1__law_is_make : Nx := (.lc (.zz (.cons (.v 0) (.cons (.tup (.cons (.k (.int 4)) (.cons (.k (.int 9)) (.cons (.k (.int 9)) (.cons (.k (.int 4)) (.cons (.k (.int 1)) .nil)))))) .nil))) (.tp (.cons (.nm 1) (.cons (.nm 2) .nil))) [1, 2] .yes (.cmp .le (.v 1) (.v 2)))
def b__law_is_make : Sxs := (.cons (.ifs (.or (.nt (.tru (.call "_law_numbers" (.cons (.v 0) (.cons (.k (.int 0)) (.cons (.k (.int 9)) .nil)))))) (.cmp .ne (.b1 .len (.v 0)) (.k (.int 5)))) (.cons (.ret (.k (.bl false))) .nil) .nil) (.cons (.ret (.b1 .all (.nw c1__law_is_make))) .nil))
def b__law_told : Sxs := (.cons (.ret (.cv ["is_world", "is_hidden", "is_make"] (.ix (.nw (.lst (.cons (.mc (.glo "is_world")) (.cons (.mc (.glo "is_hidden")) (.cons (.mc (.glo "is_make")) .nil))))) (.v 0)) (.cons (.v 1) .nil))) .nil)
def l1_law_k04 : Sxs := (.cons (.ifs (.or (.cmp .ne (.b1 .repr (.call "_law_told" (.cons (.v 4) (.cons (.v 8) .nil)))) (.b1 .repr (.ix (.v 10) (.v 4)))) (.cmp .ne (.b1 .repr (.v 8)) (.v 9))) (.cons (.ret (.k (.bl false))) .nil) .nil) .nil)
def l2_law_k04 : Sxs := (.cons (.asg (.nm 9) (.b1 .repr (.v 8))) (.cons (.own 10 (.lst (.cons (.call "_law_is_world" (.cons (.v 8) .nil)) (.cons (.call "_law_is_hidden" (.cons (.v 8) .nil)) (.cons (.call "_law_is_make" (.cons (.v 8) .nil)) .nil))))) (.cons (.for [11] (.rng (.cons (.k (.int 2)) .nil)) (.nm 11) l1_law_k04) .nil)))
def l3_law_k04 : Sxs := (.cons (.asg (.nm 6) (.call "_law_turned" (.cons (.v 2) (.cons (.bop .add (.k (.int 3)) (.v 4)) .nil)))) (.cons (.own 7 (.lst (.cons (.v 5) (.cons (.call "_law_truths" (.cons (.v 5) .nil)) (.cons (.call "_law_bent_within" (.cons (.v 5) (.cons (.v 6) .nil))) .nil))))) (.cons (.setb 7 .add (.v 7) (.nw (.lst (.cons (.call "_law_bent_within" (.cons (.v 5) (.cons (.bop .fdiv (.v 6) (.k (.int 3))) .nil))) .nil)))) (.cons (.setb 7 .add (.bop .add (.v 7) (.nw (.lst (.cons (.nw (.list (.v 5))) (.cons (.ix (.nw (.lst (.cons (.k .non) (.cons (.k (.int 5)) (.cons (.k (.str "")) (.cons (.nw (.dct0 false)) (.cons (.tup .nil) (.cons (.k (.bl true)) .nil)))))))) (.bop .mod (.bop .fdiv (.v 6) (.k (.int 9))) (.k (.int 6)))) .nil))))) (.v 3)) (.cons (.for [8, 9, 10, 11] (.seq (.v 7)) (.nm 8) l2_law_k04) .nil)))))
def l4_law_k04 : Sxs := (.cons (.asg (.nm 2) (.call "_law_mixed" (.cons (.v 0) (.cons (.v 1) .nil)))) (.cons (.own 3 (.lst (.cons (.call "_law_world" (.cons (.v 2) .nil)) (.cons (.call "_law_hidden" (.cons (.call "_law_turned" (.cons (.v 2) (.cons (.k (.int 1)) .nil))) .nil)) (.cons (.call "_law_make" (.cons (.call "_law_turned" (.cons (.v 2) (.cons (.k (.int 2)) .nil))) .nil)) .nil))))) (.cons (.for [4, 5, 6, 7, 8, 9, 10, 11] (.en (.cons (.v 3) .nil)) (.tp (.cons (.nm 4) (.cons (.nm 5) .nil))) l3_law_k04) .nil)))
def b_law_k04 : Sxs := (.cons (.for [1, 2, 3, 4, 5, 6, 7, 8, 9, 10, 11] (.rng (.cons (.bop .add (.k (.int 1)) (.mn2 false (.k (.int 10)) (.b1 .len (.v 0)))) .nil)) (.nm 1) l4_law_k04) (.cons (.ret (.k (.bl true))) .nil))
end LB

namespace LB
open PySem
def b_is_part : Sxs := (.cons (.ifs (.cmp .eq (.v 0) (.mc (.str "a"))) (.cons (.ret (.isi "tuple" (.v 1))) .nil) .nil) (.cons (.ret (.call "is_among" (.cons (.v 1) (.cons (.ix (.ix (.mc (.kdc [(("s", (.ktp [(.int 0), (.int 31)])) : Str × D), (("r", (.ktp [(.int 0), (.int 31)])) : Str × D), (("n", (.ktp [(.int 0), (.int 15)])) : Str × D), (("t", (.ktp [(.int 0), (.int 3)])) : Str × D), (("m", (.ktp [(.int 1), (.int 60)])) : Str × D), (("g", (.ktp [(.int 1), (.int 15)])) : Str × D)])) (.v 0)) (.k (.int 0))) (.cons (.ix (.ix (.mc (.kdc [(("s", (.ktp [(.int 0), (.int 31)])) : Str × D), (("r", (.ktp [(.int 0), (.int 31)])) : Str × D), (("n", (.ktp [(.int 0), (.int 15)])) : Str × D), (("t", (.ktp [(.int 0), (.int 3)])) : Str × D), (("m", (.ktp [(.int 1), (.int 60)])) : Str × D), (("g", (.ktp [(.int 1), (.int 15)])) : Str × D)])) (.v 0)) (.k (.int 1))) .nil))))) .nil))
def c1_has_form : Nx := (.lc (.zz (.cons (.v 1) (.cons (.sl (.v 0) (.some (.k (.int 1))) .no) .nil))) (.tp (.cons (.nm 2) (.cons (.nm 3) .nil))) [2, 3] .yes (.call "is_part" (.cons (.v 2) (.cons (.v 3) .nil))))
def b_has_form : Sxs := (.cons (.ifs (.or (.nt (.tru (.isi "tuple" (.v 0)))) (.or (.cmp .eq (.v 0) (.tup .nil)) (.or (.nt (.tru (.isi "str" (.ix (.v 0) (.k (.int 0)))))) (.cmp .notin (.ix (.v 0) (.k (.int 0))) (.mc (.kdc [(("set", (.str "sn")) : Str × D), (("copy", (.str "sr")) : Str × D), (("add", (.str "srr")) : Str × D), (("sub", (.str "srr")) : Str × D), (("less", (.str "srr")) : Str × D), (("same", (.str "srr")) : Str × D), (("mix", (.str "srr")) : Str × D), (("pick", (.str "srrr")) : Str × D), (("times", (.str "srr")) : Str × D), (("parts", (.str "srr")) : Str × D), (("take", (.str "str")) : Str × D), (("put", (.str "trr")) : Str × D), (("touch", (.str "tr")) : Str × D), (("tell", (.str "r")) : Str × D), (("idle", (.str "m")) : Str × D), (("if", (.str "raa")) : Str × D), (("round", (.str "ga")) : Str × D), (("turn", (.str "ra")) : Str × D)])))))) (.cons (.ret (.k (.bl false))) .nil) .nil) (.cons (.asg (.nm 1) (.ix (.mc (.kdc [(("set", (.str "sn")) : Str × D), (("copy", (.str "sr")) : Str × D), (("add", (.str "srr")) : Str × D), (("sub", (.str "srr")) : Str × D), (("less", (.str "srr")) : Str × D), (("same", (.str "srr")) : Str × D), (("mix", (.str "srr")) : Str × D), (("pick", (.str "srrr")) : Str × D), (("times", (.str "srr")) : Str × D), (("parts", (.str "srr")) : Str × D), (("take", (.str "str")) : Str × D), (("put", (.str "trr")) : Str × D), (("touch", (.str "tr")) : Str × D), (("tell", (.str "r")) : Str × D), (("idle", (.str "m")) : Str × D), (("if", (.str "raa")) : Str × D), (("round", (.str "ga")) : Str × D), (("turn", (.str "ra")) : Str × D)])) (.ix (.v 0) (.k (.int 0))))) (.cons (.ret (.and (.cmp .eq (.b1 .len (.v 0)) (.bop .add (.k (.int 1)) (.b1 .len (.v 1)))) (.b1 .all (.nw c1_has_form)))) .nil)))
def c1_parts_of : Nx := (.lc (.zz (.cons (.ix (.mc (.kdc [(("set", (.str "sn")) : Str × D), (("copy", (.str "sr")) : Str × D), (("add", (.str "srr")) : Str × D), (("sub", (.str "srr")) : Str × D), (("less", (.str "srr")) : Str × D), (("same", (.str "srr")) : Str × D), (("mix", (.str "srr")) : Str × D), (("pick", (.str "srrr")) : Str × D), (("times", (.str "srr")) : Str × D), (("parts", (.str "srr")) : Str × D), (("take", (.str "str")) : Str × D), (("put", (.str "trr")) : Str × D), (("touch", (.str "tr")) : Str × D), (("tell", (.str "r")) : Str × D), (("idle", (.str "m")) : Str × D), (("if", (.str "raa")) : Str × D), (("round", (.str "ga")) : Str × D), (("turn", (.str "ra")) : Str × D)])) (.ix (.v 0) (.k (.int 0)))) (.cons (.sl (.v 0) (.some (.k (.int 1))) .no) .nil))) (.tp (.cons (.nm 2) (.cons (.nm 3) .nil))) [2, 3] (.cmp .eq (.v 2) (.v 1)) (.v 3))
def b_parts_of : Sxs := (.cons (.ret (.b1 .tuple (.nw c1_parts_of))) .nil)
def b_arms_of : Sxs := (.cons (.ret (.call "parts_of" (.cons (.v 0) (.cons (.mc (.str "a")) .nil)))) .nil)
def b_reads : Sxs := (.cons (.ret (.call "parts_of" (.cons (.v 0) (.cons (.mc (.str "r")) .nil)))) .nil)
def c1_with_paths_v1 : Nx := (.lc (.en (.cons (.sl (.v 0) .no (.some (.bop .add (.mc (.int 400)) (.k (.int 1))))) .nil)) (.tp (.cons (.nm 3) (.cons (.nm 4) .nil))) [3, 4] .yes (.tup (.cons (.bop .add (.v 1) (.tup (.cons (.v 3) .nil))) (.cons (.v 4) .nil))))
def b_with_paths_v1 : Sxs := (.cons (.own 2 c1_with_paths_v1) (.cons (.ret (.al (.rev (.v 2)))) .nil))
def l1_need_program : Sxs := (.cons (.expr (.om .extend (.v 1) (.cons (.call "with_paths" (.cons (.ix (.v 5) (.v 6)) (.cons (.bop .add (.v 3) (.tup (.cons (.v 6) .nil))) .nil))) .nil))) .nil)
def l2_need_program : Sxs := (.cons (.asg (.tp (.cons (.nm 3) (.cons (.nm 4) .nil))) (.om .pop (.v 1) .nil)) (.cons (.aug 2 (.k (.int 1))) (.cons (.ifs (.or (.cmp .gt (.v 2) (.mc (.int 400))) (.or (.cmp .gt (.b1 .len (.v 3)) (.bop .sub (.bop .mul (.k (.int 2)) (.mc (.int 8))) (.k (.int 1)))) (.nt (.tru (.call "has_form" (.cons (.v 4) .nil)))))) (.cons (.raf "BadProgram" "path" (.v 3)) .nil) .nil) (.cons (.asg (.nm 5) (.call "arms_of" (.cons (.v 4) .nil))) (.cons (.for [6] (.rng (.cons (.bop .sub (.b1 .len (.v 5)) (.k (.int 1))) (.cons (.neg (.k (.int 1))) (.cons (.neg (.k (.int 1))) .nil)))) (.nm 6) l1_need_program) .nil)))))
def b_need_program : Sxs := (.cons (.ifs (.nt (.tru (.isi "tuple" (.v 0)))) (.cons (.raf "BadProgram" "path" (.k .non)) .nil) .nil) (.cons (.asg (.nm 1) (.call "with_paths" (.cons (.v 0) (.cons (.tup .nil) .nil)))) (.cons (.asg (.nm 2) (.k (.int 0))) (.cons (.whl [3, 4, 5, 6] (.cmp .ne (.v 1) (.nw (.lst .nil))) l2_need_program) .nil))))
def b_need_world : Sxs := (.cons (.ifs (.nt (.tru (.call "is_world" (.cons (.v 0) .nil)))) (.cons (.rai "BadWorld") .nil) .nil) .nil)
def b_need_make : Sxs := (.cons (.ifs (.nt (.tru (.call "is_make" (.cons (.v 0) .nil)))) (.cons (.rai "BadMake") .nil) .nil) .nil)
def c1_deed_told : Nx := (.lc (.seq (.call "reads" (.cons (.v 0) .nil))) (.nm 3) [3] .yes (.ix (.v 1) (.v 3)))
def b_deed_told : Sxs := (.cons (.ifs (.cmp .eq (.ix (.v 0) (.k (.int 0))) (.k (.str "set"))) (.cons (.ret (.ix (.v 0) (.k (.int 2)))) .nil) .nil) (.cons (.own 2 c1_deed_told) (.cons (.ifs (.cmp .eq (.ix (.v 0) (.k (.int 0))) (.k (.str "copy"))) (.cons (.ret (.ix (.v 2) (.k (.int 0)))) .nil) .nil) (.cons (.ifs (.cmp .eq (.ix (.v 0) (.k (.int 0))) (.k (.str "pick"))) (.cons (.ret (.ite (.cmp .ne (.ix (.v 2) (.k (.int 0))) (.k (.int 0))) (.ix (.v 2) (.k (.int 1))) (.ix (.v 2) (.k (.int 2))))) .nil) .nil) (.cons (.ifs (.cmp .eq (.ix (.v 0) (.k (.int 0))) (.k (.str "less"))) (.cons (.ret (.b1 .int (.cmp .lt (.ix (.v 2) (.k (.int 0))) (.ix (.v 2) (.k (.int 1)))))) .nil) .nil) (.cons (.ifs (.cmp .eq (.ix (.v 0) (.k (.int 0))) (.k (.str "same"))) (.cons (.ret (.b1 .int (.cmp .eq (.ix (.v 2) (.k (.int 0))) (.ix (.v 2) (.k (.int 1)))))) .nil) .nil) (.cons (.ifs (.cmp .eq (.ix (.v 0) (.k (.int 0))) (.k (.str "mix"))) (.cons (.ret (.bop .bxor (.ix (.v 2) (.k (.int 0))) (.ix (.v 2) (.k (.int 1))))) .nil) .nil) (.cons (.ifs (.cmp .eq (.ix (.v 0) (.k (.int 0))) (.k (.str "parts"))) (.cons (.ret (.ite (.cmp .ne (.ix (.v 2) (.k (.int 1))) (.k (.int 0))) (.bop .fdiv (.ix (.v 2) (.k (.int 0))) (.ix (.v 2) (.k (.int 1)))) (.mc (.int 15)))) .nil) .nil) (.cons (.ifs (.cmp .eq (.ix (.v 0) (.k (.int 0))) (.k (.str "times"))) (.cons (.ret (.bop .mod (.bop .mul (.ix (.v 2) (.k (.int 0))) (.ix (.v 2) (.k (.int 1)))) (.bop .add (.mc (.int 15)) (.k (.int 1))))) .nil) .nil) (.cons (.ret (.bop .mod (.ite (.cmp .eq (.ix (.v 0) (.k (.int 0))) (.k (.str "add"))) (.bop .add (.ix (.v 2) (.k (.int 0))) (.ix (.v 2) (.k (.int 1)))) (.bop .sub (.ix (.v 2) (.k (.int 0))) (.ix (.v 2) (.k (.int 1))))) (.bop .add (.mc (.int 15)) (.k (.int 1))))) .nil))))))))))
def c1_Going___init___v1 : Nx := (.lc (.seq (.ix (.v 2) (.k (.int 1)))) (.nm 3) [3] .yes (.al (.list (.v 3))))
def b_Going___init___v1 : Sxs := (.cons (.unp 0 ["nearness", "far", "wrong", "width", "long"] (.v 1)) (.cons (.setf (.v 0) "boxes" (.al (.list (.ix (.v 2) (.k (.int 0)))))) (.cons (.setf (.v 0) "tables" (.al c1_Going___init___v1)) (.cons (.setf (.v 0) "said" (.al (.lst .nil))) (.cons (.setf (.v 0) "beats" (.k (.int 0))) (.cons (.setf (.v 0) "touches" (.al (.lst .nil))) (.cons (.setf (.v 0) "nearest" (.nw (.lst .nil))) (.cons (.setf (.v 0) "went" (.al (.dct0 true))) (.cons (.setf (.v 0) "met" (.al (.lst .nil))) .nil)))))))))
def b_Going_meet : Sxs := (.cons (.ifs (.cmp .eq (.b1 .len (.fld (.v 0) "met")) (.mc (.int 20000))) (.cons (.rai "TooLong") .nil) .nil) (.cons (.expr (.om .append (.fld (.v 0) "met") (.cons (.tup (.cons (.v 1) (.cons (.fld (.v 0) "beats") .nil))) .nil))) (.cons (.augf (.v 0) "beats" (.v 2)) .nil)))
def l1_Going_go : Sxs := (.cons (.expr (.mth [("Going", "Going.do")] "do" (.v 0) (.cons (.v 4) (.cons (.bop .add (.v 2) (.tup (.cons (.v 3) .nil))) .nil)))) .nil)
def b_Going_go : Sxs := (.cons (.for [3, 4] (.en (.cons (.v 1) .nil)) (.tp (.cons (.nm 3) (.cons (.nm 4) .nil))) l1_Going_go) .nil)
def l1_Going_do : Sxs := (.cons (.expr (.mth [("Going", "Going.meet")] "meet" (.v 0) (.cons (.v 2) (.cons (.k (.int 1)) .nil)))) (.cons (.expr (.mth [("Going", "Going.go")] "go" (.v 0) (.cons (.ix (.v 1) (.k (.int 2))) (.cons (.bop .add (.v 2) (.tup (.cons (.k (.int 0)) .nil))) .nil)))) .nil))
def b_Going_do : Sxs := (.cons (.asg (.nm 3) (.ix (.v 1) (.k (.int 0)))) (.cons (.ifs (.cmp .eq (.v 3) (.k (.str "if"))) (.cons (.expr (.mth [("Going", "Going.do_if")] "do_if" (.v 0) (.cons (.v 1) (.cons (.v 2) .nil)))) .nil) (.cons (.ifs (.cmp .isin (.v 3) (.tup (.cons (.k (.str "round")) (.cons (.k (.str "turn")) .nil)))) (.cons (.for [4] (.rng (.cons (.ite (.cmp .eq (.v 3) (.k (.str "round"))) (.ix (.v 1) (.k (.int 1))) (.ix (.fld (.v 0) "boxes") (.ix (.v 1) (.k (.int 1))))) .nil)) (.nm 4) l1_Going_do) (.cons (.ifs (.cmp .eq (.v 3) (.k (.str "turn"))) (.cons (.expr (.mth [("Going", "Going.meet")] "meet" (.v 0) (.cons (.v 2) (.cons (.k (.int 1)) .nil)))) .nil) .nil) .nil)) (.cons (.ifs (.cmp .isin (.v 3) (.mc (.ktp [(.str "take"), (.str "put"), (.str "touch")]))) (.cons (.expr (.mth [("Going", "Going.meet")] "meet" (.v 0) (.cons (.v 2) (.cons (.k (.int 0)) .nil)))) (.cons (.asg (.nm 5) (.mth [("Going", "Going.touch")] "touch" (.v 0) (.cons (.v 1) (.cons (.fld (.v 0) "boxes") (.cons (.fld (.v 0) "beats") .nil))))) (.cons (.augf (.v 0) "beats" (.ite (.tru (.v 5)) (.k (.int 1)) (.bop .add (.k (.int 1)) (.fld (.v 0) "far")))) (.cons (.expr (.mth [("Going", "Going.do_table")] "do_table" (.v 0) (.cons (.v 1) .nil))) .nil)))) (.cons (.ifs (.cmp .eq (.v 3) (.k (.str "tell"))) (.cons (.expr (.mth [("Going", "Going.meet")] "meet" (.v 0) (.cons (.v 2) (.cons (.k (.int 1)) .nil)))) (.cons (.expr (.om .append (.fld (.v 0) "said") (.cons (.ix (.fld (.v 0) "boxes") (.ix (.v 1) (.k (.int 1)))) .nil))) .nil)) (.cons (.ifs (.cmp .eq (.v 3) (.k (.str "idle"))) (.cons (.expr (.mth [("Going", "Going.meet")] "meet" (.v 0) (.cons (.v 2) (.cons (.ix (.v 1) (.k (.int 1))) .nil)))) .nil) (.cons (.asg (.nm 6) (.call "deed_told" (.cons (.v 1) (.cons (.fld (.v 0) "boxes") .nil)))) (.cons (.expr (.mth [("Going", "Going.meet")] "meet" (.v 0) (.cons (.v 2) (.cons (.bop .add (.k (.int 1)) (.mth [("Going", "Going.beats_more")] "beats_more" (.v 0) (.cons (.v 1) (.cons (.v 6) .nil)))) .nil)))) (.cons (.seti (.fld (.v 0) "boxes") (.ix (.v 1) (.k (.int 1))) (.v 6)) .nil)))) .nil)) .nil)) .nil)) .nil)) .nil))
def b_Going_beats_more : Sxs := (.cons (.ifs (.or (.cmp .eq (.fld (.v 0) "long") (.k (.int 0))) (.cmp .notin (.ix (.v 1) (.k (.int 0))) (.tup (.cons (.k (.str "times")) (.cons (.k (.str "parts")) .nil))))) (.cons (.ret (.k (.int 0))) .nil) .nil) (.cons (.ret (.ite (.cmp .eq (.ix (.v 1) (.k (.int 0))) (.k (.str "parts"))) (.v 2) (.bits (.ix (.fld (.v 0) "boxes") (.ix (.v 1) (.k (.int 3))))))) .nil))
def b_Going_cell_told : Sxs := (.cons (.ifs (.cmp .eq (.ix (.v 1) (.k (.int 0))) (.k (.str "take"))) (.cons (.ret (.tup (.cons (.ix (.v 1) (.k (.int 2))) (.cons (.ix (.v 2) (.ix (.v 1) (.k (.int 3)))) .nil)))) .nil) .nil) (.cons (.ret (.tup (.cons (.ix (.v 1) (.k (.int 1))) (.cons (.ix (.v 2) (.ix (.v 1) (.k (.int 2)))) .nil)))) .nil))
def c1_Going_touch : Nx := (.lc (.seq (.fld (.v 0) "nearest")) (.nm 8) [8] (.cmp .ne (.v 8) (.v 6)) (.v 8))
def b_Going_touch : Sxs := (.cons (.asg (.tp (.cons (.nm 4) (.cons (.nm 5) .nil))) (.mth [("Going", "Going.cell_told")] "cell_told" (.v 0) (.cons (.v 1) (.cons (.v 2) .nil)))) (.cons (.asg (.nm 6) (.tup (.cons (.v 4) (.cons (.bop .fdiv (.v 5) (.mc (.int 4))) .nil)))) (.cons (.asg (.nm 7) (.cmp .isin (.v 6) (.fld (.v 0) "nearest"))) (.cons (.expr (.om .append (.fld (.v 0) "touches") (.cons (.tup (.cons (.v 3) (.cons (.v 4) (.cons (.bop .fdiv (.v 5) (.mc (.int 4))) .nil)))) .nil))) (.cons (.setf (.v 0) "nearest" (.sl (.bop .add (.nw (.lst (.cons (.v 6) .nil))) (.nw c1_Going_touch)) .no (.some (.fld (.v 0) "nearness")))) (.cons (.ret (.v 7)) .nil))))))
def b_Going_do_table : Sxs := (.cons (.asg (.tp (.cons (.nm 2) (.cons (.nm 3) .nil))) (.mth [("Going", "Going.cell_told")] "cell_told" (.v 0) (.cons (.v 1) (.cons (.fld (.v 0) "boxes") .nil)))) (.cons (.ifs (.cmp .eq (.ix (.v 1) (.k (.int 0))) (.k (.str "take"))) (.cons (.seti (.fld (.v 0) "boxes") (.ix (.v 1) (.k (.int 1))) (.ix (.ix (.fld (.v 0) "tables") (.v 2)) (.v 3))) .nil) (.cons (.ifs (.cmp .eq (.ix (.v 1) (.k (.int 0))) (.k (.str "put"))) (.cons (.seti (.ix (.fld (.v 0) "tables") (.v 2)) (.v 3) (.ix (.fld (.v 0) "boxes") (.ix (.v 1) (.k (.int 3))))) .nil) .nil) .nil)) .nil))
def b_Going_do_if : Sxs := (.cons (.asg (.nm 3) (.cmp .ne (.ix (.fld (.v 0) "boxes") (.ix (.v 1) (.k (.int 1)))) (.k (.int 0)))) (.cons (.asg (.nm 4) (.cmp .ne (.dget (.fld (.v 0) "went") (.v 2) (.k (.bl true))) (.v 3))) (.cons (.seti (.fld (.v 0) "went") (.v 2) (.v 3)) (.cons (.asg (.nm 5) (.fld (.v 0) "beats")) (.cons (.expr (.mth [("Going", "Going.meet")] "meet" (.v 0) (.cons (.v 2) (.cons (.ite (.tru (.v 4)) (.bop .add (.k (.int 1)) (.fld (.v 0) "wrong")) (.k (.int 1))) .nil)))) (.cons (.ifs (.tru (.v 4)) (.cons (.expr (.mth [("Going", "Going.begin")] "begin" (.v 0) (.cons (.ite (.tru (.v 3)) (.ix (.v 1) (.k (.int 3))) (.ix (.v 1) (.k (.int 2)))) (.cons (.v 5) .nil)))) .nil) .nil) (.cons (.ifs (.tru (.v 3)) (.cons (.expr (.mth [("Going", "Going.go")] "go" (.v 0) (.cons (.ix (.v 1) (.k (.int 2))) (.cons (.bop .add (.v 2) (.tup (.cons (.k (.int 0)) .nil))) .nil)))) .nil) (.cons (.expr (.mth [("Going", "Going.go")] "go" (.v 0) (.cons (.ix (.v 1) (.k (.int 3))) (.cons (.bop .add (.v 2) (.tup (.cons (.k (.int 1)) .nil))) .nil)))) .nil)) .nil)))))))
def l1_Going_begin : Sxs := (.cons (.ifs (.cmp .isin (.ix (.v 4) (.k (.int 0))) (.mc (.ktp [(.str "if"), (.str "round"), (.str "turn"), (.str "tell"), (.str "idle")]))) (.cons .retN .nil) .nil) (.cons (.ifs (.cmp .isin (.ix (.v 4) (.k (.int 0))) (.mc (.ktp [(.str "take"), (.str "put"), (.str "touch")]))) (.cons (.expr (.mth [("Going", "Going.touch")] "touch" (.v 0) (.cons (.v 4) (.cons (.v 3) (.cons (.v 2) .nil))))) (.cons (.ifs (.cmp .eq (.ix (.v 4) (.k (.int 0))) (.k (.str "take"))) (.cons (.asg (.tp (.cons (.nm 5) (.cons (.nm 6) .nil))) (.mth [("Going", "Going.cell_told")] "cell_told" (.v 0) (.cons (.v 4) (.cons (.v 3) .nil)))) (.cons (.seti (.v 3) (.ix (.v 4) (.k (.int 1))) (.ix (.ix (.fld (.v 0) "tables") (.v 5)) (.v 6))) .nil)) .nil) .nil)) (.cons (.seti (.v 3) (.ix (.v 4) (.k (.int 1))) (.call "deed_told" (.cons (.v 4) (.cons (.v 3) .nil)))) .nil)) .nil))
def b_Going_begin : Sxs := (.cons (.own 3 (.list (.fld (.v 0) "boxes"))) (.cons (.for [4, 5, 6] (.seq (.sl (.v 1) .no (.some (.fld (.v 0) "width")))) (.nm 4) l1_Going_begin) .nil))
def c1_Going_outcome : Nx := (.lc (.seq (.fld (.v 0) "tables")) (.nm 2) [2] .yes (.b1 .tuple (.v 2)))
def b_Going_outcome : Sxs := (.cons (.asg (.nm 1) (.tup (.cons (.b1 .tuple (.fld (.v 0) "boxes")) (.cons (.b1 .tuple (.nw c1_Going_outcome)) .nil)))) (.cons (.ret (.tup (.cons (.b1 .tuple (.fld (.v 0) "said")) (.cons (.v 1) (.cons (.tup (.cons (.fld (.v 0) "beats") (.cons (.b1 .tuple (.fld (.v 0) "touches")) .nil))) .nil))))) .nil))
def b_gone : Sxs := (.cons (.asg (.nm 3) (.mk "Going" "Going.__init__" (.cons (.v 1) (.cons (.v 2) .nil)))) (.cons (.expr (.mth [("Going", "Going.go")] "go" (.v 3) (.cons (.v 0) (.cons (.tup .nil) .nil)))) (.cons (.ret (.v 3)) .nil)))
def b_need_run : Sxs := (.cons (.expr (.call "need_program" (.cons (.v 0) .nil))) (.cons (.expr (.call "need_make" (.cons (.v 1) .nil))) (.cons (.expr (.call "need_world" (.cons (.v 2) .nil))) .nil)))
def b_run : Sxs := (.cons (.expr (.call "need_run" (.cons (.v 0) (.cons (.v 1) (.cons (.v 2) .nil))))) (.cons (.ret (.mth [("Going", "Going.outcome")] "outcome" (.call "gone" (.cons (.v 0) (.cons (.v 1) (.cons (.v 2) .nil)))) .nil)) .nil))
def l1__law_cell : Sxs := (.cons (.setb 3 .fdiv (.v 3) (.k (.int 306783379))) .nil)
def b__law_cell : Sxs := (.cons (.seti (.v 1) (.k (.int 0)) (.bop .add (.ix (.v 1) (.k (.int 0))) (.k (.int 1)))) (.cons (.asg (.nm 2) (.ix (.v 1) (.k (.int 0)))) (.cons (.ifs (.and (.cmp .gt (.b1 .len (.v 0)) (.k (.int 0))) (.and (.cmp .ge (.ix (.v 0) (.bop .mod (.v 2) (.b1 .len (.v 0)))) (.bop .pow (.k (.int 10)) (.k (.int 18)))) (.cmp .lt (.bop .fdiv (.v 2) (.b1 .len (.v 0))) (.k (.int 60))))) (.cons (.asg (.nm 3) (.ix (.v 0) (.bop .mod (.v 2) (.b1 .len (.v 0))))) (.cons (.for [4] (.rng (.cons (.bop .fdiv (.v 2) (.b1 .len (.v 0))) .nil)) (.nm 4) l1__law_cell) (.cons (.ifs (.cmp .gt (.v 3) (.k (.int 0))) (.cons (.ret (.bop .mod (.v 3) (.k (.int 306783379)))) .nil) .nil) .nil))) .nil) (.cons (.asg (.nm 5) (.k (.int 170141183460469231731687303715884105727))) (.cons (.asg (.nm 6) (.ite (.cmp .gt (.b1 .len (.v 0)) (.k (.int 0))) (.bop .mod (.ix (.v 0) (.bop .mod (.v 2) (.b1 .len (.v 0)))) (.v 5)) (.k (.int 5)))) (.cons (.setb 7 .add (.k (.int 91520834467120936671528473920164857)) (.bop .mul (.bop .mul (.k (.int 2)) (.v 2)) (.v 2))) (.cons (.setb 8 .mod (.bop .mul (.bop .add (.bop .add (.v 6) (.bop .mul (.k (.int 7919)) (.v 2))) (.k (.int 11))) (.v 7)) (.v 5)) (.cons (.setb 8 .mod (.bop .mul (.v 8) (.bop .add (.v 8) (.k (.int 58203947561830297465018273645019283)))) (.v 5)) (.cons (.ret (.bop .mod (.bop .fdiv (.v 8) (.k (.int 18446744073709551616))) (.k (.int 306783379)))) .nil)))))))))
def c1__law_step : Nx := (.lc (.seq (.tup (.cons (.k (.int 1)) (.cons (.k (.int 8)) (.cons (.k (.int 64)) (.cons (.k (.int 512)) .nil)))))) (.nm 15) [15] .yes (.ix (.v 4) (.bop .mod (.bop .fdiv (.v 7) (.v 15)) (.b1 .len (.v 4)))))
def c2__law_step : Nx := (.lc (.rng (.cons (.bop .add (.k (.int 1)) (.b1 .int (.cmp .eq (.v 12) (.k (.str "if"))))) .nil)) (.nm 16) [16] .yes (.call "_law_steps" (.cons (.v 0) (.cons (.v 1) (.cons (.v 2) (.cons (.bop .sub (.v 3) (.k (.int 1))) (.cons (.v 4) (.cons (.v 5) .nil))))))))
def b__law_step : Sxs := (.cons (.asg (.tp (.cons (.nm 6) (.cons (.nm 7) .nil))) (.tup (.cons (.call "_law_cell" (.cons (.v 0) (.cons (.v 1) .nil))) (.cons (.call "_law_cell" (.cons (.v 0) (.cons (.v 1) .nil))) .nil)))) (.cons (.asg (.tp (.cons (.nm 8) (.cons (.nm 9) (.cons (.nm 10) (.cons (.nm 11) .nil))))) (.nw c1__law_step)) (.cons (.par [12, 13] (.cons (.ix (.v 5) (.bop .mod (.v 6) (.b1 .len (.v 5)))) (.cons (.bop .mod (.bop .fdiv (.v 7) (.k (.int 4096))) (.k (.int 4))) .nil))) (.cons (.ifs (.and (.cmp .isin (.v 12) (.tup (.cons (.k (.str "if")) (.cons (.k (.str "round")) (.cons (.k (.str "turn")) .nil))))) (.cmp .lt (.v 3) (.k (.int 2)))) (.cons (.asg (.nm 12) (.k (.str "idle"))) .nil) .nil) (.cons (.ifs (.cmp .isin (.v 12) (.tup (.cons (.k (.str "set")) (.cons (.k (.str "idle")) (.cons (.k (.str "tell")) .nil))))) (.cons (.ret (.ix (.nw (.dct (.cons (.k (.str "set")) (.tup (.cons (.k (.str "set")) (.cons (.v 8) (.cons (.bop .mod (.bop .fdiv (.v 7) (.k (.int 4096))) (.k (.int 16))) .nil)))) (.cons (.k (.str "idle")) (.tup (.cons (.k (.str "idle")) (.cons (.bop .add (.k (.int 1)) (.bop .mod (.bop .fdiv (.v 7) (.k (.int 64))) (.k (.int 60)))) .nil))) (.cons (.k (.str "tell")) (.tup (.cons (.k (.str "tell")) (.cons (.v 9) .nil))) .nil))))) (.v 12))) .nil) .nil) (.cons (.ifs (.cmp .isin (.v 12) (.tup (.cons (.k (.str "take")) (.cons (.k (.str "put")) (.cons (.k (.str "touch")) .nil))))) (.cons (.ret (.ix (.nw (.dct (.cons (.k (.str "take")) (.tup (.cons (.v 12) (.cons (.v 8) (.cons (.v 13) (.cons (.v 9) .nil))))) (.cons (.k (.str "put")) (.tup (.cons (.v 12) (.cons (.v 13) (.cons (.v 9) (.cons (.v 10) .nil))))) (.cons (.k (.str "touch")) (.tup (.cons (.v 12) (.cons (.v 13) (.cons (.v 9) .nil)))) .nil))))) (.v 12))) .nil) .nil) (.cons (.ifs (.cmp .isin (.v 12) (.tup (.cons (.k (.str "copy")) (.cons (.k (.str "pick")) .nil)))) (.cons (.ret (.ite (.cmp .eq (.v 12) (.k (.str "copy"))) (.tup (.cons (.v 12) (.cons (.v 8) (.cons (.v 9) .nil)))) (.tup (.cons (.v 12) (.cons (.v 8) (.cons (.v 9) (.cons (.v 10) (.cons (.v 11) .nil)))))))) .nil) .nil) (.cons (.ifs (.cmp .notin (.v 12) (.tup (.cons (.k (.str "if")) (.cons (.k (.str "round")) (.cons (.k (.str "turn")) .nil))))) (.cons (.ret (.tup (.cons (.v 12) (.cons (.v 8) (.cons (.v 9) (.cons (.v 10) .nil)))))) .nil) .nil) (.cons (.own 14 c2__law_step) (.cons (.ret (.bop .add (.tup (.cons (.v 12) (.cons (.ite (.cmp .eq (.v 12) (.k (.str "round"))) (.bop .add (.k (.int 1)) (.bop .mod (.bop .fdiv (.v 7) (.k (.int 64))) (.k (.int 4)))) (.v 9)) .nil))) (.b1 .tuple (.v 14)))) .nil))))))))))
def l1__law_steps : Sxs := (.cons (.ifs (.cmp .gt (.ix (.v 2) (.k (.int 0))) (.k (.int 0))) (.cons (.seti (.v 2) (.k (.int 0)) (.bop .sub (.ix (.v 2) (.k (.int 0))) (.k (.int 1)))) (.cons (.expr (.om .append (.v 6) (.cons (.call "_law_step" (.cons (.v 0) (.cons (.v 1) (.cons (.v 2) (.cons (.v 3) (.cons (.v 4) (.cons (.v 5) .nil))))))) .nil))) .nil)) .nil) .nil)
def b__law_steps : Sxs := (.cons (.own 6 (.lst .nil)) (.cons (.for [7] (.rng (.cons (.ix (.nw (.lst (.cons (.k (.int 0)) (.cons (.k (.int 1)) (.cons (.k (.int 2)) (.cons (.k (.int 2)) (.cons (.k (.int 3)) (.cons (.k (.int 5)) .nil)))))))) (.bop .mod (.call "_law_cell" (.cons (.v 0) (.cons (.v 1) .nil))) (.k (.int 6)))) .nil)) (.nm 7) l1__law_steps) (.cons (.ret (.b1 .tuple (.v 6))) .nil)))
def c1__law_program_v1 : Nx := (.lc (.rng (.cons (.bop .add (.k (.int 2)) (.bop .mod (.v 3) (.k (.int 6)))) .nil)) (.nm 5) [5] .yes (.bop .mod (.bop .add (.bop .fdiv (.v 4) (.k (.int 32))) (.bop .mul (.v 5) (.bop .add (.bop .mul (.k (.int 2)) (.bop .mod (.v 4) (.k (.int 16)))) (.k (.int 1))))) (.k (.int 32))))
def l1__law_program_v1 : Sxs := (.cons (.setb 8 .add (.v 8) (.call "_law_steps" (.cons (.v 0) (.cons (.v 1) (.cons (.v 7) (.cons (.ix (.nw (.lst (.cons (.k (.int 2)) (.cons (.k (.int 3)) (.cons (.k (.int 8)) .nil))))) (.bop .mod (.bop .fdiv (.v 3) (.k (.int 90))) (.k (.int 3)))) (.cons (.v 6) (.cons (.v 2) .nil)))))))) .nil)
def b__law_program_v1 : Sxs := (.cons (.asg (.tp (.cons (.nm 3) (.cons (.nm 4) .nil))) (.tup (.cons (.call "_law_cell" (.cons (.v 0) (.cons (.v 1) .nil))) (.cons (.call "_law_cell" (.cons (.v 0) (.cons (.v 1) .nil))) .nil)))) (.cons (.own 6 c1__law_program_v1) (.cons (.par [7, 8] (.cons (.al (.lst (.cons (.ix (.nw (.lst (.cons (.k (.int 6)) (.cons (.k (.int 15)) (.cons (.k (.int 40)) .nil))))) (.bop .mod (.bop .fdiv (.v 3) (.k (.int 6))) (.k (.int 3)))) .nil))) (.cons (.tup .nil) .nil))) (.cons (.for [5] (.rng (.cons (.bop .add (.k (.int 1)) (.bop .mod (.bop .fdiv (.v 3) (.k (.int 18))) (.k (.int 5)))) .nil)) (.nm 5) l1__law_program_v1) (.cons (.ret (.v 8)) .nil)))))
def c1__law_world_v1 : Nx := (.lc (.seq (.tup (.cons (.k (.int 1)) (.cons (.k (.int 16)) (.cons (.k (.int 256)) (.cons (.k (.int 4096)) (.cons (.k (.int 65536)) (.cons (.k (.int 1048576)) .nil)))))))) (.nm 6) [6] .yes (.bop .mod (.bop .fdiv (.v 4) (.v 6)) (.k (.int 16))))
def l1__law_world_v1 : Sxs := (.cons (.asg (.nm 4) (.call "_law_cell" (.cons (.v 0) (.cons (.v 1) .nil)))) (.cons (.setb 2 .add (.v 2) (.nw c1__law_world_v1)) .nil))
def c2__law_world_v1 : Nx := (.lc (.rng (.cons (.k (.int 4)) .nil)) (.nm 3) [3] .yes (.b1 .tuple (.sl (.v 2) (.some (.bop .add (.k (.int 32)) (.bop .mul (.k (.int 16)) (.v 3)))) (.some (.bop .add (.k (.int 48)) (.bop .mul (.k (.int 16)) (.v 3)))))))
def b__law_world_v1 : Sxs := (.cons (.own 2 (.lst .nil)) (.cons (.for [3, 4] (.rng (.cons (.k (.int 16)) .nil)) (.nm 3) l1__law_world_v1) (.cons (.asg (.nm 5) (.b1 .tuple (.nw c2__law_world_v1))) (.cons (.ret (.tup (.cons (.b1 .tuple (.sl (.v 2) .no (.some (.k (.int 32))))) (.cons (.v 5) .nil)))) .nil))))
def b__law_make_v1 : Sxs := (.cons (.asg (.nm 2) (.call "_law_cell" (.cons (.v 0) (.cons (.v 1) .nil)))) (.cons (.asg (.nm 3) (.tup (.cons (.bop .mod (.bop .fdiv (.v 2) (.k (.int 6))) (.k (.int 5))) (.cons (.bop .mod (.bop .fdiv (.v 2) (.k (.int 30))) (.k (.int 10))) (.cons (.bop .mod (.bop .fdiv (.v 2) (.k (.int 300))) (.k (.int 10))) (.cons (.bop .mod (.bop .fdiv (.v 2) (.k (.int 3000))) (.k (.int 5))) (.cons (.bop .mod (.bop .fdiv (.v 2) (.k (.int 15000))) (.k (.int 2))) .nil))))))) (.cons (.ret (.ix (.nw (.lst (.cons (.v 3) (.cons (.v 3) (.cons (.v 3) (.cons (.v 3) (.cons (.tup (.cons (.k (.int 0)) (.cons (.k (.int 0)) (.cons (.k (.int 0)) (.cons (.k (.int 0)) (.cons (.k (.int 0)) .nil)))))) (.cons (.tup (.cons (.k (.int 4)) (.cons (.k (.int 9)) (.cons (.k (.int 9)) (.cons (.k (.int 4)) (.cons (.k (.int 1)) .nil)))))) .nil)))))))) (.bop .mod (.v 2) (.k (.int 6))))) .nil)))
def b__law_menu : Sxs := (.cons (.own 0 (.lst (.cons (.k (.str "set")) (.cons (.k (.str "copy")) (.cons (.k (.str "add")) (.cons (.k (.str "sub")) (.cons (.k (.str "less")) (.cons (.k (.str "same")) (.cons (.k (.str "mix")) (.cons (.k (.str "pick")) (.cons (.k (.str "times")) (.cons (.k (.str "parts")) (.cons (.k (.str "take")) (.cons (.k (.str "put")) (.cons (.k (.str "touch")) .nil))))))))))))))) (.cons (.ret (.bop .add (.v 0) (.nw (.lst (.cons (.k (.str "take")) (.cons (.k (.str "put")) (.cons (.k (.str "tell")) (.cons (.k (.str "idle")) (.cons (.k (.str "if")) (.cons (.k (.str "if")) (.cons (.k (.str "round")) (.cons (.k (.str "turn")) (.cons (.k (.str "if")) (.cons (.k (.str "add")) .nil)))))))))))))) .nil))
def c1__law_value : Nx := (.lc (.seq (.v 3)) (.nm 4) [4] .yes (.ix (.v 1) (.v 4)))
def b__law_value : Sxs := (.cons (.par [2, 3] (.cons (.ix (.v 0) (.k (.int 0))) (.cons (.sl (.v 0) (.some (.k (.int 2))) .no) .nil))) (.cons (.ifs (.cmp .eq (.v 2) (.k (.str "set"))) (.cons (.ret (.ix (.v 3) (.k (.int 0)))) .nil) .nil) (.cons (.own 5 c1__law_value) (.cons (.ifs (.cmp .eq (.v 2) (.k (.str "pick"))) (.cons (.ret (.ix (.v 5) (.bop .add (.k (.int 1)) (.b1 .int (.cmp .eq (.ix (.v 5) (.k (.int 0))) (.k (.int 0))))))) .nil) .nil) (.cons (.asg (.tp (.cons (.nm 4) (.cons (.nm 6) .nil))) (.sl (.bop .add (.v 5) (.v 5)) .no (.some (.k (.int 2))))) (.cons (.ifs (.cmp .eq (.v 2) (.k (.str "parts"))) (.cons (.ret (.ite (.cmp .eq (.v 6) (.k (.int 0))) (.k (.int 15)) (.bop .fdiv (.v 4) (.v 6)))) .nil) .nil) (.cons (.own 7 (.dct (.cons (.k (.str "copy")) (.v 4) (.cons (.k (.str "add")) (.bop .add (.v 4) (.v 6)) (.cons (.k (.str "sub")) (.bop .sub (.v 4) (.v 6)) (.cons (.k (.str "times")) (.bop .mul (.v 4) (.v 6)) (.cons (.k (.str "mix")) (.bop .bxor (.v 4) (.v 6)) .nil))))))) (.cons (.expr (.om .update (.v 7) (.cons (.nw (.dct (.cons (.k (.str "less")) (.b1 .int (.cmp .lt (.v 4) (.v 6))) (.cons (.k (.str "same")) (.b1 .int (.cmp .eq (.v 4) (.v 6))) .nil)))) .nil))) (.cons (.ret (.bop .mod (.ix (.v 7) (.v 2)) (.k (.int 16)))) .nil)))))))))
def b__law_cell_of : Sxs := (.cons (.ret (.ite (.cmp .eq (.ix (.v 0) (.k (.int 0))) (.k (.str "take"))) (.tup (.cons (.ix (.v 0) (.k (.int 2))) (.cons (.ix (.v 1) (.ix (.v 0) (.k (.int 3)))) .nil))) (.tup (.cons (.ix (.v 0) (.k (.int 1))) (.cons (.ix (.v 1) (.ix (.v 0) (.k (.int 2)))) .nil))))) .nil)
def c1__law_touch : Nx := (.lc (.seq (.ix (.v 0) (.k (.str "near")))) (.nm 8) [8] (.cmp .ne (.v 8) (.v 6)) (.v 8))
def b__law_touch : Sxs := (.cons (.asg (.tp (.cons (.nm 4) (.cons (.nm 5) .nil))) (.call "_law_cell_of" (.cons (.v 1) (.cons (.v 2) .nil)))) (.cons (.asg (.nm 6) (.tup (.cons (.v 4) (.cons (.bop .fdiv (.v 5) (.k (.int 4))) .nil)))) (.cons (.asg (.nm 7) (.ite (.cmp .isin (.v 6) (.ix (.v 0) (.k (.str "near")))) (.k (.int 0)) (.ix (.ix (.v 0) (.k (.str "make"))) (.k (.int 1))))) (.cons (.expr (.om .append (.ix (.v 0) (.k (.str "touch"))) (.cons (.bop .add (.tup (.cons (.v 3) .nil)) (.v 6)) .nil))) (.cons (.seti (.v 0) (.k (.str "near")) (.sl (.bop .add (.nw (.lst (.cons (.v 6) .nil))) (.nw c1__law_touch)) .no (.some (.ix (.ix (.v 0) (.k (.str "make"))) (.k (.int 0)))))) (.cons (.ret (.v 7)) .nil))))))
def l1__law_begin : Sxs := (.cons (.ifs (.cmp .isin (.ix (.v 4) (.k (.int 0))) (.tup (.cons (.k (.str "if")) (.cons (.k (.str "round")) (.cons (.k (.str "turn")) (.cons (.k (.str "tell")) (.cons (.k (.str "idle")) .nil))))))) (.cons .retN .nil) .nil) (.cons (.ifs (.cmp .isin (.ix (.v 4) (.k (.int 0))) (.tup (.cons (.k (.str "take")) (.cons (.k (.str "put")) (.cons (.k (.str "touch")) .nil))))) (.cons (.expr (.call "_law_touch" (.cons (.v 0) (.cons (.v 4) (.cons (.v 3) (.cons (.v 2) .nil)))))) (.cons (.asg (.tp (.cons (.nm 5) (.cons (.nm 6) .nil))) (.call "_law_cell_of" (.cons (.v 4) (.cons (.v 3) .nil)))) (.cons (.ifs (.cmp .eq (.ix (.v 4) (.k (.int 0))) (.k (.str "take"))) (.cons (.seti (.v 3) (.ix (.v 4) (.k (.int 1))) (.ix (.ix (.ix (.v 0) (.k (.str "table"))) (.v 5)) (.v 6))) .nil) .nil) .nil))) (.cons (.seti (.v 3) (.ix (.v 4) (.k (.int 1))) (.call "_law_value" (.cons (.v 4) (.cons (.v 3) .nil)))) .nil)) .nil))
def b__law_begin : Sxs := (.cons (.own 3 (.list (.ix (.v 0) (.k (.str "box"))))) (.cons (.for [4, 5, 6] (.seq (.sl (.v 1) .no (.some (.ix (.ix (.v 0) (.k (.str "make"))) (.k (.int 3)))))) (.nm 4) l1__law_begin) .nil))
def b__law_way : Sxs := (.cons (.asg (.nm 3) (.b1 .int (.cmp .eq (.ix (.ix (.v 0) (.k (.str "box"))) (.ix (.v 1) (.k (.int 1)))) (.k (.int 0))))) (.cons (.ifs (.cmp .ne (.dget (.ix (.v 0) (.k (.str "guess"))) (.v 2) (.k (.int 0))) (.v 3)) (.cons (.expr (.call "_law_begin" (.cons (.v 0) (.cons (.ix (.v 1) (.bop .sub (.k (.int 3)) (.v 3))) (.cons (.bop .sub (.ix (.v 0) (.k (.str "beats"))) (.k (.int 1))) .nil))))) (.cons (.seti (.v 0) (.k (.str "beats")) (.bop .add (.ix (.v 0) (.k (.str "beats"))) (.ix (.ix (.v 0) (.k (.str "make"))) (.k (.int 2))))) .nil)) .nil) (.cons (.seti (.ix (.v 0) (.k (.str "guess"))) (.v 2) (.v 3)) (.cons (.expr (.call "_law_all" (.cons (.v 0) (.cons (.ix (.v 1) (.bop .add (.k (.int 2)) (.v 3))) (.cons (.bop .add (.v 2) (.tup (.cons (.v 3) .nil))) .nil))))) .nil))))
def l1__law_circle : Sxs := (.cons (.ifs (.cmp .lt (.b1 .len (.ix (.v 0) (.k (.str "events")))) (.ix (.v 0) (.k (.str "most")))) (.cons (.expr (.om .append (.ix (.v 0) (.k (.str "events"))) (.cons (.tup (.cons (.v 2) (.cons (.ix (.v 0) (.k (.str "beats"))) .nil))) .nil))) (.cons (.seti (.v 0) (.k (.str "beats")) (.bop .add (.ix (.v 0) (.k (.str "beats"))) (.k (.int 1)))) (.cons (.expr (.call "_law_all" (.cons (.v 0) (.cons (.ix (.v 1) (.k (.int 2))) (.cons (.bop .add (.v 2) (.tup (.cons (.k (.int 0)) .nil))) .nil))))) .nil))) .nil) .nil)
def b__law_circle : Sxs := (.cons (.for [3] (.rng (.cons (.ite (.cmp .eq (.ix (.v 1) (.k (.int 0))) (.k (.str "round"))) (.ix (.v 1) (.k (.int 1))) (.ix (.ix (.v 0) (.k (.str "box"))) (.ix (.v 1) (.k (.int 1))))) .nil)) (.nm 3) l1__law_circle) (.cons (.ifs (.cmp .eq (.ix (.v 1) (.k (.int 0))) (.k (.str "turn"))) (.cons (.expr (.om .append (.ix (.v 0) (.k (.str "events"))) (.cons (.tup (.cons (.v 2) (.cons (.ix (.v 0) (.k (.str "beats"))) .nil))) .nil))) (.cons (.seti (.v 0) (.k (.str "beats")) (.bop .add (.ix (.v 0) (.k (.str "beats"))) (.k (.int 1)))) .nil)) .nil) .nil))
def b__law_do : Sxs := (.cons (.par [3, 4, 5] (.cons (.ix (.v 1) (.k (.int 0))) (.cons (.ix (.v 0) (.k (.str "beats"))) (.cons (.ix (.v 0) (.k (.str "box"))) .nil)))) (.cons (.ifs (.cmp .isin (.v 3) (.tup (.cons (.k (.str "round")) (.cons (.k (.str "turn")) .nil)))) (.cons (.expr (.call "_law_circle" (.cons (.v 0) (.cons (.v 1) (.cons (.v 2) .nil))))) (.cons .retN .nil)) .nil) (.cons (.expr (.om .append (.ix (.v 0) (.k (.str "events"))) (.cons (.tup (.cons (.v 2) (.cons (.v 4) .nil))) .nil))) (.cons (.seti (.v 0) (.k (.str "beats")) (.bop .add (.v 4) (.k (.int 1)))) (.cons (.ifs (.cmp .eq (.v 3) (.k (.str "if"))) (.cons (.expr (.call "_law_way" (.cons (.v 0) (.cons (.v 1) (.cons (.v 2) .nil))))) .nil) (.cons (.ifs (.cmp .isin (.v 3) (.tup (.cons (.k (.str "take")) (.cons (.k (.str "put")) (.cons (.k (.str "touch")) .nil))))) (.cons (.asg (.tp (.cons (.nm 6) (.cons (.nm 7) .nil))) (.call "_law_cell_of" (.cons (.v 1) (.cons (.v 5) .nil)))) (.cons (.seti (.v 0) (.k (.str "beats")) (.bop .add (.ix (.v 0) (.k (.str "beats"))) (.call "_law_touch" (.cons (.v 0) (.cons (.v 1) (.cons (.v 5) (.cons (.v 4) .nil))))))) (.cons (.ifs (.cmp .eq (.v 3) (.k (.str "take"))) (.cons (.seti (.v 5) (.ix (.v 1) (.k (.int 1))) (.ix (.ix (.ix (.v 0) (.k (.str "table"))) (.v 6)) (.v 7))) .nil) .nil) (.cons (.ifs (.cmp .eq (.v 3) (.k (.str "put"))) (.cons (.seti (.ix (.ix (.v 0) (.k (.str "table"))) (.v 6)) (.v 7) (.ix (.v 5) (.ix (.v 1) (.k (.int 3))))) .nil) .nil) .nil)))) (.cons (.ifs (.cmp .eq (.v 3) (.k (.str "tell"))) (.cons (.expr (.om .append (.ix (.v 0) (.k (.str "told"))) (.cons (.ix (.v 5) (.ix (.v 1) (.k (.int 1)))) .nil))) .nil) (.cons (.ifs (.cmp .eq (.v 3) (.k (.str "idle"))) (.cons (.seti (.v 0) (.k (.str "beats")) (.bop .add (.v 4) (.ix (.v 1) (.k (.int 1))))) .nil) (.cons (.asg (.nm 8) (.call "_law_value" (.cons (.v 1) (.cons (.v 5) .nil)))) (.cons (.ifs (.and (.cmp .eq (.ix (.ix (.v 0) (.k (.str "make"))) (.k (.int 4))) (.k (.int 1))) (.cmp .isin (.v 3) (.tup (.cons (.k (.str "times")) (.cons (.k (.str "parts")) .nil))))) (.cons (.seti (.v 0) (.k (.str "beats")) (.bop .add (.ix (.v 0) (.k (.str "beats"))) (.ite (.cmp .eq (.v 3) (.k (.str "parts"))) (.v 8) (.bits (.ix (.v 5) (.ix (.v 1) (.k (.int 3)))))))) .nil) .nil) (.cons (.seti (.v 5) (.ix (.v 1) (.k (.int 1))) (.v 8)) .nil)))) .nil)) .nil)) .nil)) .nil)))))
def l1__law_all : Sxs := (.cons (.ifs (.cmp .lt (.b1 .len (.ix (.v 0) (.k (.str "events")))) (.ix (.v 0) (.k (.str "most")))) (.cons (.expr (.call "_law_do" (.cons (.v 0) (.cons (.v 4) (.cons (.bop .add (.v 2) (.tup (.cons (.v 3) .nil))) .nil))))) .nil) .nil) .nil)
def b__law_all : Sxs := (.cons (.for [3, 4] (.en (.cons (.v 1) .nil)) (.tp (.cons (.nm 3) (.cons (.nm 4) .nil))) l1__law_all) .nil)
def c1__law_run_v1 : Nx := (.lc (.seq (.ix (.v 2) (.k (.int 1)))) (.nm 5) [5] .yes (.al (.list (.v 5))))
def b__law_run_v1 : Sxs := (.cons (.own 4 (.dct (.cons (.k (.str "make")) (.v 1) (.cons (.k (.str "box")) (.al (.list (.ix (.v 2) (.k (.int 0))))) (.cons (.k (.str "table")) (.al c1__law_run_v1) (.cons (.k (.str "most")) (.v 3) .nil)))))) (.cons (.expr (.om .update (.v 4) (.cons (.nw (.dct (.cons (.k (.str "told")) (.al (.lst .nil)) (.cons (.k (.str "beats")) (.k (.int 0)) (.cons (.k (.str "touch")) (.al (.lst .nil)) (.cons (.k (.str "near")) (.nw (.lst .nil)) (.cons (.k (.str "guess")) (.al (.dct0 true)) (.cons (.k (.str "events")) (.al (.lst .nil)) .nil)))))))) .nil))) (.cons (.expr (.call "_law_all" (.cons (.v 4) (.cons (.v 0) (.cons (.tup .nil) .nil))))) (.cons (.ret (.ite (.cmp .ge (.b1 .len (.ix (.v 4) (.k (.str "events")))) (.v 3)) (.k .non) (.v 4))) .nil))))
def c1__law_outcome : Nx := (.lc (.seq (.ix (.v 0) (.k (.str "table")))) (.nm 2) [2] .yes (.b1 .tuple (.v 2)))
def b__law_outcome : Sxs := (.cons (.asg (.nm 1) (.tup (.cons (.b1 .tuple (.ix (.v 0) (.k (.str "box")))) (.cons (.b1 .tuple (.nw c1__law_outcome)) .nil)))) (.cons (.ret (.tup (.cons (.b1 .tuple (.ix (.v 0) (.k (.str "told")))) (.cons (.v 1) (.cons (.tup (.cons (.ix (.v 0) (.k (.str "beats"))) (.cons (.b1 .tuple (.ix (.v 0) (.k (.str "touch")))) .nil))) .nil))))) .nil))
def c1__law_are_whole : Nx := (.lc (.seq (.v 0)) (.nm 1) [1] (.nt (.tru (.call "_law_are_whole" (.cons (.v 1) .nil)))) (.v 1))
def b__law_are_whole : Sxs := (.cons (.ifs (.tru (.isi "tuple" (.v 0))) (.cons (.ret (.cmp .eq (.nw c1__law_are_whole) (.nw (.lst .nil)))) .nil) .nil) (.cons (.ret (.and (.isi "int" (.v 0)) (.nt (.isi "bool" (.v 0))))) .nil))
def l1_law_k10_v1 : Sxs := (.cons (.asg (.nm 11) (.call "_law_run" (.cons (.v 3) (.cons (.v 9) (.cons (.v 10) (.cons (.k (.int 400)) .nil)))))) (.cons (.ifs (.cmp .isnot (.v 11) (.k .non)) (.cons (.asg (.nm 12) (.call "run" (.cons (.v 3) (.cons (.v 9) (.cons (.v 10) .nil))))) (.cons (.ifs (.or (.cmp .ne (.v 12) (.call "_law_outcome" (.cons (.v 11) .nil))) (.nt (.tru (.call "_law_are_whole" (.cons (.v 12) .nil))))) (.cons (.ret (.k (.bl false))) .nil) .nil) .nil)) .nil) .nil))
def l2_law_k10_v1 : Sxs := (.cons (.par [3, 4] (.cons (.call "_law_program" (.cons (.v 0) (.cons (.v 1) (.cons (.call "_law_menu" .nil) .nil)))) (.cons (.call "_law_world" (.cons (.v 0) (.cons (.v 1) .nil))) .nil))) (.cons (.asg (.tp (.cons (.nm 5) (.cons (.tp (.cons (.nm 6) (.cons (.nm 7) .nil))) .nil))) (.tup (.cons (.call "_law_make" (.cons (.v 0) (.cons (.v 1) .nil))) (.cons (.call "_law_world" (.cons (.v 0) (.cons (.v 1) .nil))) .nil)))) (.cons (.own 8 (.lst (.cons (.tup (.cons (.v 5) (.cons (.v 4) .nil))) (.cons (.tup (.cons (.call "_law_make" (.cons (.v 0) (.cons (.v 1) .nil))) (.cons (.v 4) .nil))) (.cons (.tup (.cons (.v 5) (.cons (.tup (.cons (.ix (.v 4) (.k (.int 0))) (.cons (.v 7) .nil))) .nil))) .nil))))) (.cons (.setb 8 .add (.v 8) (.nw (.lst (.cons (.tup (.cons (.v 5) (.cons (.tup (.cons (.v 6) (.cons (.ix (.v 4) (.k (.int 1))) .nil))) .nil))) (.cons (.tup (.cons (.v 5) (.cons (.v 4) .nil))) .nil))))) (.cons (.for [9, 10, 11, 12] (.seq (.v 8)) (.tp (.cons (.nm 9) (.cons (.nm 10) .nil))) l1_law_k10_v1) .nil)))))
def b_law_k10_v1 : Sxs := (.cons (.asg (.nm 1) (.al (.lst (.cons (.k (.int 0)) .nil)))) (.cons (.for [2, 3, 4, 5, 7, 8, 9, 10, 11, 12] (.rng (.cons (.bop .add (.k (.int 2)) (.mn2 false (.k (.int 8)) (.b1 .len (.v 0)))) .nil)) (.nm 2) l2_law_k10_v1) (.cons (.asg (.nm 13) (.call "_law_world" (.cons (.v 0) (.cons (.v 1) .nil)))) (.cons (.ifs (.cmp .ne (.call "run" (.cons (.tup .nil) (.cons (.tup (.cons (.k (.int 4)) (.cons (.k (.int 9)) (.cons (.k (.int 9)) (.cons (.k (.int 4)) (.cons (.k (.int 1)) .nil)))))) (.cons (.v 13) .nil)))) (.tup (.cons (.tup .nil) (.cons (.v 13) (.cons (.tup (.cons (.k (.int 0)) (.cons (.tup .nil) .nil))) .nil))))) (.cons (.ret (.k (.bl false))) .nil) .nil) (.cons (.setb 6 .add (.tup (.cons (.k (.int 3)) .nil)) (.sl (.ix (.v 13) (.k (.int 0))) (.some (.k (.int 1))) .no)) (.cons (.asg (.nm 14) (.tup (.cons (.tup (.cons (.k (.str "round")) (.cons (.k (.int 5)) (.cons (.tup .nil) .nil)))) (.cons (.tup (.cons (.k (.str "turn")) (.cons (.k (.int 0)) (.cons (.tup .nil) .nil)))) (.cons (.tup (.cons (.k (.str "set")) (.cons (.k (.int 0)) (.cons (.k (.int 0)) .nil)))) (.cons (.tup (.cons (.k (.str "turn")) (.cons (.k (.int 0)) (.cons (.tup .nil) .nil)))) (.cons (.tup (.cons (.k (.str "idle")) (.cons (.k (.int 60)) .nil))) .nil))))))) (.cons (.asg (.nm 15) (.tup (.cons (.tup .nil) (.cons (.tup (.cons (.bop .add (.tup (.cons (.k (.int 0)) .nil)) (.sl (.v 6) (.some (.k (.int 1))) .no)) (.cons (.ix (.v 13) (.k (.int 1))) .nil))) (.cons (.tup (.cons (.bop .add (.bop .add (.bop .add (.bop .add (.k (.int 5)) (.k (.int 4))) (.k (.int 1))) (.k (.int 1))) (.k (.int 60))) (.cons (.tup .nil) .nil))) .nil))))) (.cons (.ret (.cmp .eq (.call "run" (.cons (.v 14) (.cons (.tup (.cons (.k (.int 0)) (.cons (.k (.int 0)) (.cons (.k (.int 0)) (.cons (.k (.int 0)) (.cons (.k (.int 0)) .nil)))))) (.cons (.tup (.cons (.v 6) (.cons (.ix (.v 13) (.k (.int 1))) .nil))) .nil)))) (.v 15))) .nil))))))))
end LB

namespace LB
open PySem
def b_need_hidden : Sxs := (.cons (.ifs (.nt (.tru (.call "is_hidden" (.cons (.v 0) .nil)))) (.cons (.rai "BadHidden") .nil) .nil) .nil)
def l1_differ_within : Sxs := (.cons (.ifs (.and (.cmp .notin (.v 4) (.ix (.v 0) (.v 3))) (.cmp .ne (.v 5) (.ix (.ix (.v 2) (.v 3)) (.v 4)))) (.cons (.ret (.k (.bl false))) .nil) .nil) .nil)
def l2_differ_within : Sxs := (.cons (.for [4, 5] (.en (.cons (.ix (.v 1) (.v 3)) .nil)) (.tp (.cons (.nm 4) (.cons (.nm 5) .nil))) l1_differ_within) .nil)
def b_differ_within : Sxs := (.cons (.expr (.call "need_hidden" (.cons (.v 0) .nil))) (.cons (.expr (.call "need_world" (.cons (.v 1) .nil))) (.cons (.expr (.call "need_world" (.cons (.v 2) .nil))) (.cons (.for [3, 4, 5] (.rng (.cons (.k (.int 2)) .nil)) (.nm 3) l2_differ_within) (.cons (.ret (.k (.bl true))) .nil)))))
def c1_worlds_of_v1 : Nx := (.lc (.rng (.cons (.bop .add (.mc (.int 15)) (.k (.int 1))) .nil)) (.nm 6) [6] .yes (.bop .add (.bop .add (.sl (.v 5) .no (.some (.v 3))) (.tup (.cons (.v 6) .nil))) (.sl (.v 5) (.some (.bop .add (.v 3) (.k (.int 1)))) .no)))
def l1_worlds_of_v1 : Sxs := (.cons (.expr (.om .extend (.v 4) (.cons (.nw c1_worlds_of_v1) .nil))) .nil)
def l2_worlds_of_v1 : Sxs := (.cons (.own 4 (.lst .nil)) (.cons (.for [5] (.seq (.v 2)) (.nm 5) l1_worlds_of_v1) (.cons (.asg (.nm 2) (.v 4)) .nil)))
def c2_worlds_of_v1 : Nx := (.lc (.seq (.v 2)) (.nm 5) [5] .yes (.tup (.cons (.v 5) (.cons (.ix (.v 0) (.k (.int 1))) .nil))))
def b_worlds_of_v1 : Sxs := (.cons (.expr (.call "need_world" (.cons (.v 0) .nil))) (.cons (.expr (.call "need_hidden" (.cons (.v 1) .nil))) (.cons (.ifs (.or (.cmp .gt (.b1 .len (.ix (.v 1) (.k (.int 0)))) (.mc (.int 2))) (.cmp .ne (.ix (.v 1) (.k (.int 1))) (.tup .nil))) (.cons (.rai "TooMany") .nil) .nil) (.cons (.own 2 (.lst (.cons (.ix (.v 0) (.k (.int 0))) .nil))) (.cons (.for [3, 4, 5] (.seq (.ix (.v 1) (.k (.int 0)))) (.nm 3) l2_worlds_of_v1) (.cons (.ret (.al c2_worlds_of_v1)) .nil))))))
def c1__law_other_v2 : Nx := (.lc (.seq (.ix (.v 0) (.k (.int 1)))) (.nm 3) [3] .yes (.al (.list (.v 3))))
def l1__law_other_v2 : Sxs := (.cons (.asg (.nm 7) (.call "_law_turned" (.cons (.v 2) (.cons (.bop .add (.k (.int 1)) (.v 6)) .nil)))) (.cons (.par [8, 3, 9] (.cons (.bop .mod (.bop .fdiv (.v 7) (.k (.int 5))) (.k (.int 32))) (.cons (.bop .mod (.bop .fdiv (.v 7) (.k (.int 7))) (.k (.int 4))) (.cons (.bop .mod (.bop .fdiv (.v 7) (.k (.int 29))) (.k (.int 16))) .nil)))) (.cons (.ifs (.and (.cmp .gt (.bop .mod (.bop .fdiv (.v 7) (.k (.int 3))) (.k (.int 3))) (.k (.int 0))) (.cmp .ne (.ix (.v 1) (.k (.int 0))) (.tup .nil))) (.cons (.asg (.nm 8) (.ix (.ix (.v 1) (.k (.int 0))) (.bop .mod (.bop .fdiv (.v 7) (.k (.int 5))) (.b1 .len (.ix (.v 1) (.k (.int 0))))))) .nil) .nil) (.cons (.ifs (.and (.cmp .gt (.bop .mod (.bop .fdiv (.v 7) (.k (.int 3))) (.k (.int 3))) (.k (.int 0))) (.cmp .ne (.ix (.v 1) (.k (.int 1))) (.tup .nil))) (.cons (.asg (.nm 3) (.ix (.ix (.v 1) (.k (.int 1))) (.bop .mod (.bop .fdiv (.v 7) (.k (.int 7))) (.b1 .len (.ix (.v 1) (.k (.int 1))))))) .nil) .nil) (.cons (.ifs (.cmp .gt (.bop .mod (.bop .fdiv (.v 7) (.k (.int 500))) (.k (.int 3))) (.k (.int 0))) (.cons (.seti (.v 4) (.v 8) (.bop .mod (.bop .add (.bop .add (.ix (.v 4) (.v 8)) (.k (.int 1))) (.bop .mod (.bop .fdiv (.v 7) (.k (.int 1500))) (.k (.int 15)))) (.k (.int 16)))) .nil) (.cons (.seti (.ix (.v 5) (.v 3)) (.v 9) (.bop .mod (.bop .add (.bop .add (.ix (.ix (.v 5) (.v 3)) (.v 9)) (.k (.int 1))) (.bop .mod (.bop .fdiv (.v 7) (.k (.int 1500))) (.k (.int 15)))) (.k (.int 16)))) .nil)) .nil)))))
def c2__law_other_v2 : Nx := (.lc (.seq (.v 5)) (.nm 3) [3] .yes (.b1 .tuple (.v 3)))
def b__law_other_v2 : Sxs := (.cons (.par [4, 5] (.cons (.al (.list (.ix (.v 0) (.k (.int 0))))) (.cons (.nw c1__law_other_v2) .nil))) (.cons (.for [6, 7, 8, 3, 9] (.rng (.cons (.bop .mod (.bop .fdiv (.v 2) (.k (.int 3))) (.k (.int 4))) .nil)) (.nm 6) l1__law_other_v2) (.cons (.ret (.tup (.cons (.b1 .tuple (.v 4)) (.cons (.b1 .tuple (.nw c2__law_other_v2)) .nil)))) .nil)))
def c1__law_due_v1 : Nx := (.lc (.rng (.cons (.k (.int 32)) .nil)) (.nm 5) [5] (.cmp .ne (.ix (.ix (.v 1) (.k (.int 0))) (.v 5)) (.ix (.ix (.v 2) (.k (.int 0))) (.v 5))) (.v 5))
def c2__law_due_v1 : Nx := (.lc (.rng (.cons (.k (.int 4)) .nil)) (.nm 6) [6] (.cmp .ne (.ix (.ix (.v 1) (.k (.int 1))) (.v 6)) (.ix (.ix (.v 2) (.k (.int 1))) (.v 6))) (.v 6))
def c3__law_due_v1 : Nx := (.lc (.seq (.v 3)) (.nm 5) [5] (.cmp .notin (.v 5) (.ix (.v 0) (.k (.int 0)))) (.v 5))
def c4__law_due_v1 : Nx := (.lc (.seq (.v 4)) (.nm 7) [7] (.cmp .notin (.v 7) (.ix (.v 0) (.k (.int 1)))) (.v 7))
def b__law_due_v1 : Sxs := (.cons (.own 3 c1__law_due_v1) (.cons (.own 4 c2__law_due_v1) (.cons (.ret (.cmp .eq (.bop .add (.nw c3__law_due_v1) (.nw c4__law_due_v1)) (.nw (.lst .nil)))) .nil)))
def b__law_refusal : Sxs := (.cons (.own 1 (.lst (.cons (.k (.str "hidden")) (.cons (.k (.str "world")) (.cons (.k (.str "many")) (.cons (.k (.str "another")) .nil)))))) (.cons (.own 2 (.lst (.cons (.isx [("BadHidden", true), ("BadWorld", false), ("TooMany", false)] (.v 0)) (.cons (.isx [("BadHidden", false), ("BadWorld", true), ("TooMany", false)] (.v 0)) (.cons (.isx [("BadHidden", false), ("BadWorld", false), ("TooMany", true)] (.v 0)) .nil))))) (.cons (.own 3 (.lst (.cons (.isx [("BadHidden", false), ("BadWorld", false), ("TooMany", false)] (.v 0)) (.cons (.isx [("BadHidden", false), ("BadWorld", false), ("TooMany", false)] (.v 0)) (.cons (.isx [("BadHidden", false), ("BadWorld", false), ("TooMany", false)] (.v 0)) .nil))))) (.cons (.expr (.om .append (.v 3) (.cons (.or (.isx [("BadHidden", false), ("BadWorld", false), ("TooMany", false)] (.v 0)) (.nt (.isx [("BadHidden", true), ("BadWorld", true), ("TooMany", true)] (.v 0)))) .nil))) (.cons (.ret (.ite (.or (.cmp .isin (.k (.bl true)) (.v 3)) (.cmp .gt (.lm .count (.v 2) (.cons (.k (.bl true)) .nil)) (.k (.int 1)))) (.k (.str "another")) (.ix (.v 1) (.lm .index (.bop .add (.v 2) (.nw (.lst (.cons (.k (.bl true)) .nil)))) (.cons (.k (.bl true)) .nil))))) .nil)))))
def b__law_differ : Sxs := (.cons (.asg (.nm 3) (.k .non)) (.cons (.asg (.nm 4) (.k .non)) (.cons (.tryx (.cons (.asg (.nm 4) (.call "differ_within" (.cons (.v 0) (.cons (.v 1) (.cons (.v 2) .nil))))) .nil) [("BadHidden", true), ("BadWorld", true), ("TooMany", true)] 5 3) (.cons (.ret (.ite (.cmp .is_ (.v 3) (.k .non)) (.v 4) (.call "_law_refusal" (.cons (.v 3) .nil)))) .nil))))
def b__law_worlds : Sxs := (.cons (.asg (.nm 2) (.k .non)) (.cons (.asg (.nm 3) (.k .non)) (.cons (.tryx (.cons (.asg (.nm 3) (.call "worlds_of" (.cons (.v 0) (.cons (.v 1) .nil)))) .nil) [("BadHidden", true), ("BadWorld", true), ("TooMany", true)] 4 2) (.cons (.ret (.ite (.cmp .is_ (.v 2) (.k .non)) (.v 3) (.call "_law_refusal" (.cons (.v 2) .nil)))) .nil))))
def l1__law_all_v1 : Sxs := (.cons (.seti (.v 5) (.v 7) (.bop .mod (.bop .fdiv (.v 4) (.ix (.nw (.lst (.cons (.k (.int 1)) (.cons (.k (.int 16)) .nil)))) (.v 6))) (.k (.int 16)))) .nil)
def l2__law_all_v1 : Sxs := (.cons (.own 5 (.list (.ix (.v 0) (.k (.int 0))))) (.cons (.for [6, 7] (.en (.cons (.rv (.ix (.v 1) (.k (.int 0)))) .nil)) (.tp (.cons (.nm 6) (.cons (.nm 7) .nil))) l1__law_all_v1) (.cons (.expr (.om .append (.v 2) (.cons (.tup (.cons (.b1 .tuple (.v 5)) (.cons (.ix (.v 0) (.k (.int 1))) .nil))) .nil))) .nil)))
def b__law_all_v1 : Sxs := (.cons (.own 2 (.lst .nil)) (.cons (.asg (.nm 3) (.ite (.cmp .lt (.b1 .len (.ix (.v 1) (.k (.int 0)))) (.k (.int 3))) (.ix (.nw (.lst (.cons (.k (.int 1)) (.cons (.k (.int 16)) (.cons (.k (.int 256)) .nil))))) (.b1 .len (.ix (.v 1) (.k (.int 0))))) (.k (.int 0)))) (.cons (.for [4, 5, 6, 7] (.rng (.cons (.v 3) .nil)) (.nm 4) l2__law_all_v1) (.cons (.ret (.v 2)) .nil))))
def b__law_spoilt : Sxs := (.cons (.setb 2 .add (.tup (.cons (.k (.bl true)) .nil)) (.sl (.ix (.v 0) (.k (.int 0))) (.some (.k (.int 1))) .no)) (.cons (.own 3 (.lst (.cons (.k .non) (.cons (.nw (.list (.v 0))) (.cons (.tup (.cons (.v 2) (.cons (.ix (.v 0) (.k (.int 1))) .nil))) (.cons (.bop .add (.v 0) (.tup (.cons (.tup .nil) .nil))) (.cons (.k (.str "")) (.cons (.sl (.v 0) .no (.some (.k (.int 1)))) (.cons (.tup (.cons (.ix (.v 0) (.k (.int 0))) (.cons (.nw (.list (.ix (.v 0) (.k (.int 1))))) .nil))) .nil))))))))) (.cons (.ret (.ix (.v 3) (.bop .mod (.bop .fdiv (.v 1) (.k (.int 3))) (.k (.int 7))))) .nil)))
def c1__law_twins_are : Nx := (.lc (.seq (.tup (.cons (.v 0) (.cons (.v 1) (.cons (.v 2) .nil))))) (.nm 7) [7] .yes (.call "_law_truths" (.cons (.v 7) .nil)))
def c2__law_twins_are : Nx := (.lc (.zz (.cons (.v 3) (.cons (.tup (.cons (.v 0) (.cons (.v 1) (.cons (.v 2) .nil)))) .nil))) (.tp (.cons (.nm 8) (.cons (.nm 7) .nil))) [8, 7] .yes (.cmp .ne (.b1 .repr (.v 8)) (.b1 .repr (.v 7))))
def b__law_twins_are : Sxs := (.cons (.own 3 c1__law_twins_are) (.cons (.own 4 c2__law_twins_are) (.cons (.own 5 (.lst (.cons (.call "_law_due" (.cons (.v 0) (.cons (.v 1) (.cons (.v 2) .nil)))) (.cons (.k (.str "hidden")) (.cons (.k (.str "world")) (.cons (.k (.str "world")) .nil)))))) (.cons (.own 6 (.lst (.cons (.call "_law_differ" (.cons (.v 0) (.cons (.v 1) (.cons (.v 2) .nil)))) (.cons (.ite (.tru (.ix (.v 4) (.k (.int 0)))) (.call "_law_differ" (.cons (.ix (.v 3) (.k (.int 0))) (.cons (.v 1) (.cons (.v 2) .nil)))) (.k (.str "hidden"))) .nil)))) (.cons (.expr (.om .append (.v 6) (.cons (.ite (.tru (.ix (.v 4) (.k (.int 1)))) (.call "_law_differ" (.cons (.v 0) (.cons (.ix (.v 3) (.k (.int 1))) (.cons (.v 2) .nil)))) (.k (.str "world"))) .nil))) (.cons (.expr (.om .append (.v 6) (.cons (.ite (.tru (.ix (.v 4) (.k (.int 2)))) (.call "_law_differ" (.cons (.v 0) (.cons (.v 1) (.cons (.ix (.v 3) (.k (.int 2))) .nil)))) (.k (.str "world"))) .nil))) (.cons (.ifs (.cmp .ne (.b1 .repr (.v 6)) (.b1 .repr (.v 5))) (.cons (.ret (.k (.bl false))) .nil) .nil) (.cons (.expr (.call "_law_worlds" (.cons (.v 1) (.cons (.v 0) .nil)))) (.cons (.ifs (.and (.tru (.ix (.v 4) (.k (.int 0)))) (.cmp .ne (.call "_law_worlds" (.cons (.v 1) (.cons (.ix (.v 3) (.k (.int 0))) .nil))) (.k (.str "hidden")))) (.cons (.ret (.k (.bl false))) .nil) .nil) (.cons (.ret (.or (.nt (.ix (.v 4) (.k (.int 1)))) (.cmp .eq (.call "_law_worlds" (.cons (.ix (.v 3) (.k (.int 1))) (.cons (.v 0) .nil))) (.k (.str "world"))))) .nil))))))))))
def c1__law_spoilt_are : Nx := (.lc (.seq (.tup (.cons (.k (.int 2)) (.cons (.k (.int 7)) (.cons (.k (.int 23)) .nil))))) (.nm 10) [10] .yes (.cmp .eq (.bop .mod (.bop .fdiv (.v 5) (.v 10)) (.k (.int 3))) (.k (.int 0))))
def l1__law_spoilt_are : Sxs := (.cons (.ifs (.tru (.ix (.v 6) (.v 8))) (.cons (.seti (.v 7) (.v 8) (.call "_law_spoilt" (.cons (.ix (.v 7) (.v 8)) (.cons (.call "_law_turned" (.cons (.v 4) (.cons (.bop .add (.k (.int 4)) (.v 8)) .nil))) .nil)))) .nil) .nil) .nil)
def b__law_spoilt_are : Sxs := (.cons (.asg (.nm 5) (.call "_law_turned" (.cons (.v 4) (.cons (.k (.int 3)) .nil)))) (.cons (.own 6 c1__law_spoilt_are) (.cons (.own 7 (.lst (.cons (.v 0) (.cons (.v 1) (.cons (.v 2) .nil))))) (.cons (.for [8] (.rng (.cons (.k (.int 3)) .nil)) (.nm 8) l1__law_spoilt_are) (.cons (.asg (.nm 9) (.ite (.tru (.ix (.v 6) (.k (.int 0)))) (.k (.str "hidden")) (.ite (.or (.tru (.ix (.v 6) (.k (.int 1)))) (.tru (.ix (.v 6) (.k (.int 2))))) (.k (.str "world")) (.call "_law_due" (.cons (.v 0) (.cons (.v 1) (.cons (.v 2) .nil))))))) (.cons (.ifs (.cmp .ne (.b1 .repr (.call "_law_differ" (.cons (.ix (.v 7) (.k (.int 0))) (.cons (.ix (.v 7) (.k (.int 1))) (.cons (.ix (.v 7) (.k (.int 2))) .nil))))) (.b1 .repr (.v 9))) (.cons (.ret (.k (.bl false))) .nil) .nil) (.cons (.asg (.nm 9) (.ite (.tru (.ix (.v 6) (.k (.int 1)))) (.k (.str "world")) (.ite (.tru (.ix (.v 6) (.k (.int 0)))) (.k (.str "hidden")) (.v 3)))) (.cons (.ret (.cmp .eq (.call "_law_worlds" (.cons (.ix (.v 7) (.k (.int 1))) (.cons (.ix (.v 7) (.k (.int 0))) .nil))) (.v 9))) .nil))))))))
def l1_law_k05 : Sxs := (.cons (.ifs (.cmp .ne (.b1 .repr (.call "_law_differ" (.cons (.v 7) (.cons (.v 4) (.cons (.v 5) .nil))))) (.b1 .repr (.call "_law_due" (.cons (.v 7) (.cons (.v 4) (.cons (.v 5) .nil)))))) (.cons (.ret (.k (.bl false))) .nil) .nil) .nil)
def l2_law_k05 : Sxs := (.cons (.asg (.nm 2) (.call "_law_mixed" (.cons (.v 0) (.cons (.v 1) .nil)))) (.cons (.par [3, 4] (.cons (.call "_law_hidden" (.cons (.v 2) .nil)) (.cons (.call "_law_world" (.cons (.call "_law_turned" (.cons (.v 2) (.cons (.k (.int 1)) .nil))) .nil)) .nil))) (.cons (.asg (.nm 5) (.call "_law_other" (.cons (.v 4) (.cons (.v 3) (.cons (.call "_law_turned" (.cons (.v 2) (.cons (.k (.int 2)) .nil))) .nil))))) (.cons (.asg (.nm 6) (.call "_law_hidden" (.cons (.call "_law_turned" (.cons (.v 2) (.cons (.k (.int 7)) .nil))) .nil))) (.cons (.for [7] (.seq (.tup (.cons (.v 3) (.cons (.v 6) (.cons (.v 3) (.cons (.tup (.cons (.tup .nil) (.cons (.tup .nil) .nil))) (.cons (.v 6) .nil))))))) (.nm 7) l1_law_k05) (.cons (.setb 8 .mod (.bop .fdiv (.v 2) (.k (.int 5))) (.k (.int 32))) (.cons (.asg (.nm 9) (.tup (.cons (.sl (.tup (.cons (.v 8) (.cons (.bop .mod (.bop .add (.bop .add (.v 8) (.k (.int 1))) (.bop .mod (.bop .fdiv (.v 2) (.k (.int 160))) (.k (.int 31)))) (.k (.int 32))) .nil))) .no (.some (.bop .mod (.bop .fdiv (.v 2) (.k (.int 11))) (.k (.int 3))))) (.cons (.tup .nil) .nil)))) (.cons (.asg (.nm 9) (.tup (.cons (.b1 .tuple (.nw (.srt (.ix (.v 9) (.k (.int 0)))))) (.cons (.tup .nil) .nil)))) (.cons (.ifs (.or (.nt (.tru (.call "_law_twins_are" (.cons (.v 3) (.cons (.v 4) (.cons (.v 5) .nil)))))) (.nt (.tru (.call "_law_twins_are" (.cons (.v 9) (.cons (.v 4) (.cons (.v 5) .nil))))))) (.cons (.ret (.k (.bl false))) .nil) .nil) (.cons (.asg (.nm 10) (.call "_law_worlds" (.cons (.v 4) (.cons (.v 9) .nil)))) (.cons (.ifs (.or (.nt (.tru (.isi "list" (.v 10)))) (.cmp .ne (.v 10) (.call "_law_all" (.cons (.v 4) (.cons (.v 9) .nil))))) (.cons (.ret (.k (.bl false))) .nil) .nil) (.cons (.expr (.om .clear (.v 10) .nil)) (.cons (.asg (.nm 11) (.tup (.cons (.ix (.v 4) (.k (.int 0))) (.cons (.rv (.ix (.v 5) (.k (.int 1)))) .nil)))) (.cons (.ifs (.or (.cmp .ne (.call "_law_worlds" (.cons (.v 4) (.cons (.v 9) .nil))) (.call "_law_all" (.cons (.v 4) (.cons (.v 9) .nil)))) (.cmp .ne (.call "_law_worlds" (.cons (.v 11) (.cons (.v 9) .nil))) (.call "_law_all" (.cons (.v 11) (.cons (.v 9) .nil))))) (.cons (.ret (.k (.bl false))) .nil) .nil) (.cons (.asg (.nm 12) (.ite (.or (.cmp .gt (.b1 .len (.ix (.v 3) (.k (.int 0)))) (.k (.int 2))) (.cmp .ne (.ix (.v 3) (.k (.int 1))) (.tup .nil))) (.k (.str "many")) (.call "_law_all" (.cons (.v 4) (.cons (.v 3) .nil))))) (.cons (.ifs (.cmp .ne (.call "_law_worlds" (.cons (.v 4) (.cons (.v 3) .nil))) (.v 12)) (.cons (.ret (.k (.bl false))) .nil) .nil) (.cons (.ifs (.nt (.tru (.call "_law_spoilt_are" (.cons (.v 3) (.cons (.v 4) (.cons (.v 5) (.cons (.v 12) (.cons (.v 2) .nil)))))))) (.cons (.ret (.k (.bl false))) .nil) .nil) .nil)))))))))))))))))
def b_law_k05 : Sxs := (.cons (.for [1, 2, 3, 4, 5, 6, 7, 8, 9, 10, 11, 12] (.rng (.cons (.bop .add (.k (.int 1)) (.mn2 false (.k (.int 10)) (.b1 .len (.v 0)))) .nil)) (.nm 1) l2_law_k05) (.cons (.ret (.k (.bl true))) .nil))
end LB

namespace LB
open PySem L2 PyProof.Rows
/-! ### methods that change their object, a[k] = v, told at a state -/
section
variable {i n : Nat} {h : Mo D} {d : D} {m : Mst} {ρ : List Sl} {S : List SO} {o : Ob} {ds es : List D} {x : D}
@[simp] theorem z_omM (om : Om) (a : Opd) (f : Mo (List D)) (m : Mst) : omM om a f m = (a.pre m).bind fun x m1 => match (a.pl x m1).bind (Pl.get m1) with
  | none => .no
  | some o1 => if o1.ty = om.ty then (f m1).bind fun ds m2 => match a.pl x m2 with
    | none => .no
    | some p => match p.get m2 with
      | none => .no
      | some o => match omD om o (thaw m2 om ds) with
        | none => .no
        | some (o', e) => .ok e (p.set m2 o')
    else .no := rfl
@[simp] theorem z_setiE (a : Opd) (k v : Mo D) (m : Mst) : setiE a k v m = (v m).bind fun e m => (a.pre m).bind fun x => Mo.bind k fun d m => match a.pl x m with
  | some p => match p.get m with
    | some o => match putI o (look m d) e with
      | some o' => .ok .non (p.set m o')
      | none => .no
    | none => .no
  | none => .no := rfl
@[simp] theorem z_plv : Opd.pl (some i, h) d ⟨ρ, S⟩ = match ρ[i]? with
    | some (.own _) => some (.sl i)
    | some (.va (.ref n)) => some (.st n)
    | _ => none := rfl
@[simp] theorem z_ple : Opd.pl (none, h) (.ref n) m = some (.st n) := rfl
@[simp] theorem z_gsl : Pl.get ⟨ρ, S⟩ (.sl i) = match ρ[i]? with
    | some (.own o) => some o
    | _ => none := rfl
@[simp] theorem z_gst : Pl.get ⟨ρ, S⟩ (.st n) = match S[n]? with
    | some (.ob o) => some o
    | _ => none := rfl
@[simp] theorem z_ssl : Pl.set ⟨ρ, S⟩ o (.sl i) = ⟨ρ.set i (.own o), S⟩ := rfl
@[simp] theorem z_sst : Pl.set ⟨ρ, S⟩ o (.st n) = ⟨ρ, S.set n (.ob o)⟩ := rfl
@[simp] theorem z_tyl' : (Ob.lst ds).ty = "list" := rfl
@[simp] theorem z_tyd' (t : Bool) (kvs : List (D × D)) : (Ob.dct t kvs).ty = "dict" := rfl
@[simp] theorem z_oty : Om.ty .append = "list" ∧ Om.ty .extend = "list" ∧ Om.ty .pop = "list" ∧ Om.ty .reverse = "list" ∧ Om.ty .clear = "list" ∧ Om.ty .update = "dict" := ⟨rfl, rfl, rfl, rfl, rfl, rfl⟩
@[simp] theorem z_th1 : thaw m .append ds = ds := rfl
@[simp] theorem z_th2 : thaw m .pop ds = ds := rfl
@[simp] theorem z_th3 : thaw m .clear ds = ds := rfl
@[simp] theorem z_th4 : thaw m .update ds = ds := rfl
@[simp] theorem z_th5 : thaw m .extend [.lst es] = [.lst es] := rfl
@[simp] theorem z_th6 : thaw m .extend [.tup es] = [.tup es] := rfl
@[simp] theorem z_th7 : thaw ⟨ρ, S⟩ .extend [.ref n] = match S[n]? with
    | some (.ob (.lst es)) => [.lst es]
    | _ => [.ref n] := rfl
@[simp] theorem z_od1 : omD .append (.lst ds) [x] = if ds.length < sizeLine then some (.lst (ds ++ [x]), .non) else none := rfl
@[simp] theorem z_od2 : omD .extend (.lst ds) [.lst es] = if ds.length + es.length ≤ sizeLine then some (.lst (ds ++ es), .non) else none := rfl
@[simp] theorem z_od3 : omD .extend (.lst ds) [.tup es] = if ds.length + es.length ≤ sizeLine then some (.lst (ds ++ es), .non) else none := rfl
@[simp] theorem z_od4 : omD .pop (.lst ds) [] = ds[ds.length - 1]?.map fun x => (.lst ds.dropLast, x) := rfl
@[simp] theorem z_od5 : omD .clear (.lst ds) [] = some (.lst [], .non) := rfl
@[simp] theorem ixN_at {n j : Nat} (hj : j < n) : ixN n (j : Int) = some j := by
  unfold ixN
  rw [if_pos (Int.natCast_nonneg j), if_pos (by omega), Int.toNat_natCast]
end
@[simp] theorem trunc_ref {k n : Nat} {S : List SO} (h : k ≤ n) : trunc k [.ref n] S = S := by
  unfold trunc
  have e : D.lows k [.ref n] = false := by
    simp only [D.lows, D.low, Bool.and_true, decide_eq_false_iff_not]
    omega
  rw [e, Bool.and_false]
  rfl
section
variable {S l : List SO} {x : SO} {j : Nat}
@[simp] theorem get_app0 : (S ++ l)[S.length]? = l[0]? := by rw [List.getElem?_append_right (Nat.le_refl _), Nat.sub_self]
@[simp] theorem get_app : (S ++ l)[S.length + j]? = l[j]? := by rw [List.getElem?_append_right (Nat.le_add_right _ _), Nat.add_sub_cancel_left]
@[simp] theorem set_app0 : (S ++ l).set S.length x = S ++ l.set 0 x := by rw [List.set_append_right _ _ (Nat.le_refl _), Nat.sub_self]
@[simp] theorem set_app : (S ++ l).set (S.length + j) x = S ++ l.set j x := by rw [List.set_append_right _ _ (Nat.le_add_right _ _), Nat.add_sub_cancel_left]
end
theorem lcL_cons {t : Tg} {vs : List Nat} {c : Mo Bool} {e : Mo D} {acc ds : List D} {d : D} {m : Mst} : lcL t vs c e acc (d :: ds) m = match bindT t d (wipeR vs m.ρ) with
    | none => .no
    | some ρ => match c { m with ρ := ρ } with
      | .ok true m => match e m with
        | .ok y m => if acc.length < sizeLine then lcL t vs c e (acc ++ [y]) ds m else .no
        | _ => .no
      | .ok false m => lcL t vs c e acc ds m
      | _ => .no := rfl
/-- objects that hold none of behind a place -/
def Low (S : List SO) : Prop := S.all (SO.low S.length) = true
mutual
theorem D.low_up {n m : Nat} (h : n ≤ m) : ∀ {d : D}, d.low n = true → d.low m = true
  | .ref k, e => by simp only [D.low, decide_eq_true_eq] at e ⊢; omega
  | .tup ds, e => by simp only [D.low] at e ⊢; exact D.lows_up h e
  | .ktp ds, e => by simp only [D.low] at e ⊢; exact D.lows_up h e
  | .lst ds, e => by simp only [D.low] at e ⊢; exact D.lows_up h e
  | .dct _ kvs, e => by simp only [D.low] at e ⊢; exact D.lowk_up h e
  | .kdc kvs, e => by simp only [D.low] at e ⊢; exact D.lowe_up h e
  | .exf _ _ d, e => by simp only [D.low] at e ⊢; exact D.low_up h e
  | .non, _ => by simp only [D.low]
  | .bl _, _ => by simp only [D.low]
  | .int _, _ => by simp only [D.low]
  | .str _, _ => by simp only [D.low]
  | .glo _, _ => by simp only [D.low]
  | .exo _, _ => by simp only [D.low]
theorem D.lows_up {n m : Nat} (h : n ≤ m) : ∀ {d : List D}, D.lows n d = true → D.lows m d = true
  | [], _ => by simp only [D.lows]
  | d :: r, e => by
    simp only [D.lows, Bool.and_eq_true] at e ⊢
    exact ⟨D.low_up h e.1, D.lows_up h e.2⟩
theorem D.lowk_up {n m : Nat} (h : n ≤ m) : ∀ {d : List (D × D)}, D.lowk n d = true → D.lowk m d = true
  | [], _ => by simp only [D.lowk]
  | (_, d) :: r, e => by
    simp only [D.lowk, Bool.and_eq_true] at e ⊢
    exact ⟨D.low_up h e.1, D.lowk_up h e.2⟩
theorem D.lowe_up {n m : Nat} (h : n ≤ m) : ∀ {d : List (Str × D)}, D.lowe n d = true → D.lowe m d = true
  | [], _ => by simp only [D.lowe]
  | (_, d) :: r, e => by
    simp only [D.lowe, Bool.and_eq_true] at e ⊢
    exact ⟨D.low_up h e.1, D.lowe_up h e.2⟩
end
theorem SO.low_up {n m : Nat} (h : n ≤ m) : ∀ {o : SO}, o.low n = true → o.low m = true
  | .ob (.lst _), e => D.lows_up h e
  | .ob (.dct _ _), e => D.lowk_up h e
  | .ins _ _, e => D.lowe_up h e
theorem Low.app {S T : List SO} (h : Low S) (k : ∀ o ∈ T, o.low (S.length + T.length) = true) : Low (S ++ T) := by
  unfold Low at *
  rw [List.all_eq_true] at *
  intro o ho
  rw [List.length_append]
  rcases List.mem_append.mp ho with q | q
  · exact SO.low_up (by omega) (h o q)
  · exact k o q
theorem Low.trunc {S T : List SO} (h : Low S) {l : List D} (k : D.lows S.length l = true) : LB.trunc S.length l (S ++ T) = S := by
  unfold LB.trunc
  rw [List.take_left' rfl, show S.all (SO.low S.length) = true from h, k]
  rfl
/-! ### range(j), j a number of ours: never by simp (the kernel reckons small62 of a cast in ones) -/
theorem evS_rng {Φ : Str → Fn} {es : Exs} {m m' : Mst} {j : Nat} (h : evX Φ es m = .ok [.int (j : Int)] m') (sj : j < 1000000) : evS Φ (.rng es) m = .ok ((List.range j).map fun (n : Nat) => D.int (n : Int)) m' := by
  have hs : ∀ i : Int, 0 ≤ i → i < 1000000 → small62 i = true := fun i h1 h2 => by unfold small62; simp; omega
  rw [z_srng, h, Res.bind_ok, z_rng1 (hs _ (by omega) (by omega)), Int.toNat_natCast]
  rfl
theorem asg_nm {Φ : Str → Fn} {i : Nat} {e : Ex} {d : D} {m m' : Mst} (h : evE Φ e m = .ok d m') : evT Φ (.asg (.nm i) e) m = .ok .nx ⟨m'.ρ.set i (.va d), m'.S⟩ := by
  rw [z_asg, h]
  rfl
theorem ite_t {Φ : Str → Fn} {c : Bx} {a b : Ex} {d : D} {m m' m2 : Mst} (h : evB Φ c m = .ok true m') (h2 : evE Φ a m' = .ok d m2) : evE Φ (.ite c a b) m = .ok d m2 := by
  rw [z_ite, h, Res.bind_ok, if_pos rfl, h2]
theorem ite_f {Φ : Str → Fn} {c : Bx} {a b : Ex} {d : D} {m m' m2 : Mst} (h : evB Φ c m = .ok false m') (h2 : evE Φ b m' = .ok d m2) : evE Φ (.ite c a b) m = .ok d m2 := by
  rw [z_ite, h, Res.bind_ok, if_neg (by decide), h2]
theorem for_nx {Φ : Str → Fn} {ks : List Nat} {s : Sr} {t : Tg} {b : Sxs} {m m' : Mst} {ds : List D} {r : Res Fl} (h : evS Φ s m = .ok ds m') (h2 : forL ks t (evTs Φ b) ds m' = r) : evT Φ (.for ks s t b) m = r := by
  rw [z_for, h, Res.bind_ok, h2]
/-! ### bodies statement by statement -/
theorem seq_nx {Φ : Str → Fn} {s : Sx} {r : Sxs} {m m' : Mst} (h : evT Φ s m = .ok .nx m') : evTs Φ (.cons s r) m = evTs Φ r m' := by
  rw [z_cons, h]
  rfl
theorem seq_rt {Φ : Str → Fn} {s : Sx} {r : Sxs} {d : D} {m m' : Mst} (h : evT Φ s m = .ok (.rt d) m') : evTs Φ (.cons s r) m = .ok (.rt d) m' := by
  rw [z_cons, h]
  rfl
theorem seq_exc {Φ : Str → Fn} {s : Sx} {r : Sxs} {x : Xc} {m m' : Mst} (h : evT Φ s m = .exc x m') : evTs Φ (.cons s r) m = .exc x m' := by
  rw [z_cons, h]
  rfl
theorem body_rt {n : Nat} {b : Mo Fl} {l : List D} {S S' : List SO} {d : D} {ρ : List Sl} {m : Mst} (hm : m.S = S) (h : b ⟨l.map .va ++ List.replicate (n - l.length) .un, S⟩ = .ok (.rt d) ⟨ρ, S'⟩) : bodyF n b l m = .ok d ⟨[], trunc S.length [d] S'⟩ := by
  unfold bodyF
  rw [hm, h]
theorem body_nx {n : Nat} {b : Mo Fl} {l : List D} {S S' : List SO} {ρ : List Sl} {m : Mst} (hm : m.S = S) (h : b ⟨l.map .va ++ List.replicate (n - l.length) .un, S⟩ = .ok .nx ⟨ρ, S'⟩) : bodyF n b l m = .ok .non ⟨[], trunc S.length [] S'⟩ := by
  unfold bodyF
  rw [hm, h]
theorem ifs_t {Φ : Str → Fn} {c : Bx} {a b : Sxs} {m m' : Mst} (h : evB Φ c m = .ok true m') : evT Φ (.ifs c a b) m = evTs Φ a m' := by
  rw [z_ifs, h]
  rfl
theorem ifs_f {Φ : Str → Fn} {c : Bx} {a b : Sxs} {m m' : Mst} (h : evB Φ c m = .ok false m') : evT Φ (.ifs c a b) m = evTs Φ b m' := by
  rw [z_ifs, h]
  rfl
/-! ### loops by what holds ahead of each turn -/
theorem forL_rel {α β : Type} {g : α → D} {ks : List Nat} {t : Tg} {b : Mo Fl} (R : β → Mst → Prop) (f : β → α → β) : ∀ {xs : List α} {s : β} {m : Mst}, (∀ s x m, x ∈ xs → R s m → ∃ ρ m', bindT t (g x) m.ρ = some ρ ∧ b { m with ρ := ρ } = .ok .nx m' ∧ R (f s x) { m' with ρ := wipeR ks m'.ρ }) → R s m → ∃ m', forL ks t b (xs.map g) m = .ok .nx m' ∧ R (xs.foldl f s) m'
  | [], s, m, _, h => ⟨m, rfl, h⟩
  | x :: xs, s, m, h1, h => by
    obtain ⟨ρ, m', e1, e2, r⟩ := h1 s x m List.mem_cons_self h
    rw [List.map_cons, forL_step e1 e2]
    exact forL_rel R f (fun s y m hy => h1 s y m (List.mem_cons_of_mem _ hy)) r
/-- .. the state known wholly -/
theorem forL_fold {α β : Type} {g : α → D} {ks : List Nat} {t : Tg} {b : Mo Fl} (E : β → Mst) (I : β → Prop) (f : β → α → β) {xs : List α} {s : β} (h : ∀ s x, x ∈ xs → I s → ∃ ρ m', bindT t (g x) (E s).ρ = some ρ ∧ b { E s with ρ := ρ } = .ok .nx m' ∧ ({ m' with ρ := wipeR ks m'.ρ } : Mst) = E (f s x) ∧ I (f s x)) (h0 : I s) : forL ks t b (xs.map g) (E s) = .ok .nx (E (xs.foldl f s)) ∧ I (xs.foldl f s) := by
  obtain ⟨m', e, q, i⟩ := forL_rel (R := fun s m => m = E s ∧ I s) f (fun s x m hx ⟨q, i⟩ => by
    obtain ⟨ρ, m', e1, e2, e3, e4⟩ := h s x hx i
    exact ⟨ρ, m', by rw [q]; exact e1, by rw [q]; exact e2, e3, e4⟩) (⟨rfl, h0⟩ : E s = E s ∧ I s)
  exact ⟨by rw [e, q], i⟩
/-- a loop whose turns make a list longer -/
theorem forL_app {α β : Type} {g : α → D} {ks : List Nat} {t : Tg} {b : Mo Fl} (E : List β → Mst) (f : α → List β) (N : Nat) : ∀ {xs : List α} {acc : List β}, (∀ x ∈ xs, ∀ acc, acc.length + (f x).length ≤ N → ∃ ρ m', bindT t (g x) (E acc).ρ = some ρ ∧ b { E acc with ρ := ρ } = .ok .nx m' ∧ ({ m' with ρ := wipeR ks m'.ρ } : Mst) = E (acc ++ f x)) → acc.length + (xs.flatMap f).length ≤ N → forL ks t b (xs.map g) (E acc) = .ok .nx (E (acc ++ xs.flatMap f))
  | [], acc, _, _ => by simp [forL_nil]
  | x :: xs, acc, h, hz => by
    have hz' : acc.length + ((f x).length + (xs.flatMap f).length) ≤ N := by simpa using hz
    obtain ⟨ρ, m', e1, e2, e3⟩ := h x List.mem_cons_self acc (by omega)
    rw [List.map_cons, forL_step e1 e2, e3, forL_app E f N (fun y hy => h y (List.mem_cons_of_mem _ hy)) (by rw [List.length_append]; omega)]
    simp
/-- a loop that turns out or ends by the first item that has not p -/
theorem forL_all {α : Type} {g : α → D} {ks : List Nat} {t : Tg} {b : Mo Fl} {S : List SO} {ρ : List Sl} (p : α → Bool) (d : D) : ∀ {xs : List α}, (∀ x ∈ xs, ∃ ρ1, bindT t (g x) ρ = some ρ1 ∧ (p x = true → ∃ ρ2, b ⟨ρ1, S⟩ = .ok .nx ⟨ρ2, S⟩ ∧ wipeR ks ρ2 = ρ) ∧ (p x = false → ∃ ρ2, b ⟨ρ1, S⟩ = .ok (.rt d) ⟨ρ2, S⟩)) →
    (xs.all p = true → forL ks t b (xs.map g) ⟨ρ, S⟩ = .ok .nx ⟨ρ, S⟩) ∧ (xs.all p = false → ∃ ρ2, forL ks t b (xs.map g) ⟨ρ, S⟩ = .ok (.rt d) ⟨ρ2, S⟩)
  | [], _ => ⟨fun _ => rfl, fun z => by simp at z⟩
  | x :: xs, h => by
    obtain ⟨ρ1, e1, h1, h2⟩ := h x List.mem_cons_self
    obtain ⟨k1, k2⟩ := forL_all (xs := xs) p d fun y hy => h y (List.mem_cons_of_mem _ hy)
    cases hp : p x with
    | true =>
      obtain ⟨ρ2, e2, w⟩ := h1 hp
      have st : forL ks t b ((x :: xs).map g) ⟨ρ, S⟩ = forL ks t b (xs.map g) ⟨ρ, S⟩ := by
        rw [List.map_cons, forL_step (m' := ⟨ρ2, S⟩) e1 e2]
        show forL ks t b (xs.map g) ⟨wipeR ks ρ2, S⟩ = _
        rw [w]
      rw [st, List.all_cons, hp, Bool.true_and]
      exact ⟨k1, k2⟩
    | false =>
      rw [List.all_cons, hp, Bool.false_and]
      refine ⟨fun z => (nomatch z), fun _ => ?_⟩
      obtain ⟨ρ2, e2⟩ := h2 hp
      refine ⟨ρ2, ?_⟩
      rw [List.map_cons, forL_cons, e1]
      show (b ⟨ρ1, S⟩).bind _ = _
      rw [e2]
      rfl
end LB

namespace LB
open PySem L2 PyProof.Rows
/-! ### plain data of a bounded size -/
mutual
def plB : D → Bool
  | .non => true | .bl _ => true | .int _ => true | .str x => decide (x.length ≤ 1000)
  | .tup ds => decide (ds.length ≤ 60) && plsB ds
  | .lst ds => decide (ds.length ≤ 60) && plsB ds
  | .dct false [] => true
  | _ => false
def plsB : List D → Bool
  | [] => true
  | d :: r => plB d && plsB r
end
theorem plsB_iff : ∀ {l : List D}, plsB l = true ↔ ∀ d ∈ l, plB d = true
  | [] => by simp [plsB]
  | d :: r => by simp [plsB, plsB_iff (l := r)]
theorem pl_tup {l : List D} : plB (.tup l) = true ↔ l.length ≤ 60 ∧ ∀ d ∈ l, plB d = true := by simp [plB, plsB_iff]
theorem pl_lst {l : List D} : plB (.lst l) = true ↔ l.length ≤ 60 ∧ ∀ d ∈ l, plB d = true := by simp [plB, plsB_iff]
/-! ### worlds: what the program looks at -/
structure LWorlds (L : Nat → Str → Fn) : Prop where
  is_among : ∀ k, L (k + 1) "is_among" = bodyF 3 (evTs (L k) b_is_among)
  is_word : ∀ k, L (k + 1) "is_word" = bodyF 1 (evTs (L k) b_is_word)
  are_words : ∀ k, L (k + 1) "are_words" = bodyF 3 (evTs (L k) b_are_words)
  is_world : ∀ k, L (k + 1) "is_world" = bodyF 2 (evTs (L k) b_is_world)
  is_rising : ∀ k, L (k + 1) "is_rising" = bodyF 5 (evTs (L k) b_is_rising)
  is_hidden : ∀ k, L (k + 1) "is_hidden" = bodyF 1 (evTs (L k) b_is_hidden)
structure LWorldsM (L : Nat → Str → Fn) : Prop extends LWorlds L where
  is_make : ∀ k, L (k + 1) "is_make" = bodyF 3 (evTs (L k) b_is_make)
def amongB (lo hi : Int) : D → Bool
  | .int i => decide (lo ≤ i) && decide (i ≤ hi)
  | _ => false
def numB (lo hi : Int) : D → Bool
  | .tup l => l.all (amongB lo hi)
  | _ => false
def areWordsB (n : Int) : D → Bool
  | .tup l => decide ((l.length : Int) = n) && l.all (amongB 0 15)
  | _ => false
def isWorldB : D → Bool
  | .tup [a, .tup l] => areWordsB 32 a && (decide ((l.length : Int) = 4) && l.all (areWordsB 16))
  | _ => false
@[simp] theorem flatTs_bl {α : Type} (f : α → Bool) : ∀ l : List α, flatTs (l.map fun x => D.bl (f x)) = some (l.map f)
  | [] => rfl
  | x :: l => by
    have := flatTs_bl f l
    simp only [List.map_cons, flatTs, this]
    rfl
theorem among_int {lo hi : Int} {d : D} (h : amongB lo hi d = true) : ∃ i, d = .int i ∧ lo ≤ i ∧ i ≤ hi := by
  cases d <;> simp [amongB] at h
  exact ⟨_, rfl, h⟩
theorem amongs_int {lo hi : Int} : ∀ {l : List D}, l.all (amongB lo hi) = true → ∃ ns : List Int, l = ns.map .int ∧ ∀ n ∈ ns, lo ≤ n ∧ n ≤ hi
  | [], _ => ⟨[], rfl, by simp⟩
  | d :: l, h => by
    rw [List.all_cons, Bool.and_eq_true] at h
    obtain ⟨i, rfl, h1⟩ := among_int h.1
    obtain ⟨ns, rfl, h2⟩ := amongs_int h.2
    exact ⟨i :: ns, rfl, by simpa using ⟨h1, h2⟩⟩
def numsOf (l : List D) : List Int := l.map fun | .int i => i | _ => 0
@[simp] theorem numsOf_map (ns : List Int) : numsOf (ns.map .int) = ns := by simp [numsOf, Function.comp_def]
def ascB (ns : List Int) : Bool := (ns.zip (ns.drop 1)).all fun p => decide (p.1 < p.2)
theorem ascB_iff : ∀ {ns : List Int}, ascB ns = true ↔ ns.Pairwise (· < ·)
  | [] => by simp [ascB]
  | [a] => by simp [ascB]
  | a :: b :: r => by
    have h := ascB_iff (ns := b :: r)
    have e : ascB (a :: b :: r) = (decide (a < b) && ascB (b :: r)) := by simp [ascB]
    rw [e, Bool.and_eq_true, h, decide_eq_true_eq, List.pairwise_cons (a := a)]
    constructor
    · rintro ⟨h1, h2⟩
      exact ⟨fun x hx => by
        rcases List.mem_cons.mp hx with rfl | q
        · exact h1
        · exact Int.lt_trans h1 ((List.pairwise_cons.mp h2).1 x q), h2⟩
    · rintro ⟨h1, h2⟩
      exact ⟨h1 b List.mem_cons_self, h2⟩
def risingB (many : Int) : D → Bool
  | .tup l => l.all (amongB 0 (many - 1)) && ascB (numsOf l)
  | _ => false
def isHiddenB : D → Bool
  | .tup [a, b] => risingB 32 a && risingB 4 b
  | _ => false
def isMakeB : D → Bool
  | .tup [a, b, c, d, e] => amongB 0 4 a && (amongB 0 9 b && (amongB 0 9 c && (amongB 0 4 d && amongB 0 1 e)))
  | _ => false
section
variable {L : Nat → Str → Fn} (hL : LWorlds L) (k : Nat) (S : List SO)
include hL
theorem is_among_ok {d : D} (h : plB d = true) (lo hi : Int) : L (k + 1) "is_among" [d, .int lo, .int hi] ⟨[], S⟩ = .ok (.bl (amongB lo hi d)) ⟨[], S⟩ := by
  rw [hL.is_among]
  unfold bodyF b_is_among
  cases d with
  | int i =>
    by_cases c : lo ≤ i <;> simp [isiD, tyD, amongB, trunc_self, chM, c, Opd.pre, Opd.get]
  | _ => first | (simp [isiD, tyD, amongB, trunc_self]; done) | simp [plB] at h
theorem is_word_ok {d : D} (h : plB d = true) : L (k + 2) "is_word" [d] ⟨[], S⟩ = .ok (.bl (amongB 0 15 d)) ⟨[], S⟩ := by
  rw [hL.is_word]
  unfold bodyF b_is_word
  simp [is_among_ok hL k S h, trunc_self]
theorem are_words_ok {d : D} (h : plB d = true) (n : Int) : L (k + 3) "are_words" [d, .int n] ⟨[], S⟩ = .ok (.bl (areWordsB n d)) ⟨[], S⟩ := by
  rw [hL.are_words]
  unfold bodyF b_are_words
  cases d with
  | tup l =>
    have hp := pl_tup.mp h
    have c : evN (L (k + 2)) c1_are_words ⟨[.va (.tup l), .va (.int n), .un], S⟩ = .ok (.lst (l.map fun x => .bl (amongB 0 15 x))) ⟨[.va (.tup l), .va (.int n), .un], S⟩ := by
      unfold c1_are_words
      refine lc_map (fun x => [.va (.tup l), .va (.int n), .va x]) (by simp [Mo.opt]) rfl (by simp [Tg.slots]) (fun x _ => by simp) (fun x _ => by simp) (fun x hx => ?_) (by rw [sizeLine_eq]; omega)
      simp [is_word_ok hL k S (hp.2 x hx)]
    by_cases e : (l.length : Int) = n <;> simp [isiD, tyD, areWordsB, trunc_self, c, e, List.all_map, Function.comp_def, List.replicate]
  | _ => first | (simp [isiD, tyD, areWordsB, trunc_self, List.replicate]; done) | simp [plB] at h
theorem is_world_ok {d : D} (h : plB d = true) : L (k + 4) "is_world" [d] ⟨[], S⟩ = .ok (.bl (isWorldB d)) ⟨[], S⟩ := by
  rw [hL.is_world]
  unfold bodyF b_is_world
  cases d with
  | tup l =>
    have hp := pl_tup.mp h
    match l, hp with
    | [], _ => simp [isiD, tyD, isWorldB, trunc_self, List.replicate]
    | [a], _ => simp [isiD, tyD, isWorldB, trunc_self, List.replicate]
    | a :: b :: c :: r, _ =>
      have ne : ¬ ((r.length : Int) + 1 + 1 + 1 = 2) := by omega
      simp [isiD, tyD, isWorldB, trunc_self, List.replicate, ne]
    | [a, b], hp =>
      have ha := hp.2 a (by simp)
      have hb := hp.2 b (by simp)
      have w := are_words_ok hL k S ha 32
      cases b with
      | tup t =>
        have ht := pl_tup.mp hb
        have c : evN (L (k + 3)) c1_is_world ⟨[.va (.tup [a, .tup t]), .un], S⟩ = .ok (.lst (t.map fun x => .bl (areWordsB 16 x))) ⟨[.va (.tup [a, .tup t]), .un], S⟩ := by
          unfold c1_is_world
          refine lc_map (fun x => [.va (.tup [a, .tup t]), .va x]) (by simp [Mo.opt, atI, ixN]) rfl (by simp [Tg.slots]) (fun x _ => by simp) (fun x _ => by simp) (fun x hx => ?_) (by rw [sizeLine_eq]; omega)
          simp [are_words_ok hL k S (ht.2 x hx)]
        cases e : areWordsB 32 a <;> by_cases e2 : (t.length : Int) = 4 <;> simp [isiD, tyD, isWorldB, trunc_self, c, e, e2, w, List.all_map, Function.comp_def, List.replicate, atI, ixN]
      | _ => first | (cases e : areWordsB 32 a <;> simp [isiD, tyD, isWorldB, trunc_self, e, w, List.replicate, atI, ixN]; done) | simp [plB] at hb
  | _ => first | (simp [isiD, tyD, isWorldB, trunc_self, List.replicate]; done) | simp [plB] at h
theorem is_rising_ok {d : D} (h : plB d = true) (n : Int) : L (k + 2) "is_rising" [d, .int n] ⟨[], S⟩ = .ok (.bl (risingB n d)) ⟨[], S⟩ := by
  rw [hL.is_rising]
  unfold bodyF b_is_rising
  cases d with
  | tup l =>
    have hp := pl_tup.mp h
    have c : evN (L (k + 1)) c1_is_rising ⟨[.va (.tup l), .va (.int n), .un, .un, .un], S⟩ = .ok (.lst (l.map fun x => .bl (amongB 0 (n - 1) x))) ⟨[.va (.tup l), .va (.int n), .un, .un, .un], S⟩ := by
      unfold c1_is_rising
      refine lc_map (fun x => [.va (.tup l), .va (.int n), .va x, .un, .un]) (by simp [Mo.opt]) rfl (by simp [Tg.slots]) (fun x _ => by simp) (fun x _ => by simp) (fun x hx => ?_) (by rw [sizeLine_eq]; omega)
      simp [is_among_ok hL k S (hp.2 x hx)]
    cases e : l.all (amongB 0 (n - 1)) with
    | false => simp [isiD, tyD, risingB, trunc_self, c, e, List.all_map, Function.comp_def, List.replicate]
    | true =>
      obtain ⟨ns, hl, _⟩ := amongs_int e
      have hn : numsOf l = ns := by rw [hl, numsOf_map]
      have c2 : evN (L (k + 1)) c2_is_rising ⟨[.va (.tup l), .va (.int n), .un, .un, .un], S⟩ = .ok (.lst ((ns.zip (ns.drop 1)).map fun p => .bl (decide (p.1 < p.2)))) ⟨[.va (.tup l), .va (.int n), .un, .un, .un], S⟩ := by
        unfold c2_is_rising
        refine lc_mapI (g := fun p : Int × Int => .tup [.int p.1, .int p.2]) (fun p => [.va (.tup l), .va (.int n), .un, .va (.int p.1), .va (.int p.2)]) ?_ rfl (by simp [Tg.slots, Tgs.slots]) (fun x _ => by simp) (fun x _ => by simp) (fun x hx => ?_) ?_
        · simp [cut_lo]
          rw [hl, ← List.map_tail, zipF_map]
        · simp
        · rw [sizeLine_eq]; have := hp.1; rw [hl] at this; simp at this ⊢; omega
      simp [isiD, tyD, risingB, trunc_self, c, c2, e, List.all_map, Function.comp_def, List.replicate, ascB, hn]
  | _ => first | (simp [isiD, tyD, risingB, trunc_self, List.replicate]; done) | simp [plB] at h
theorem is_hidden_ok {d : D} (h : plB d = true) : L (k + 3) "is_hidden" [d] ⟨[], S⟩ = .ok (.bl (isHiddenB d)) ⟨[], S⟩ := by
  rw [hL.is_hidden]
  unfold bodyF b_is_hidden
  cases d with
  | tup l =>
    have hp := pl_tup.mp h
    match l, hp with
    | [], _ => simp [isiD, tyD, isHiddenB, trunc_self, List.replicate]
    | [a], _ => simp [isiD, tyD, isHiddenB, trunc_self, List.replicate]
    | a :: b :: c :: r, _ =>
      have ne : ¬ ((r.length : Int) + 1 + 1 + 1 = 2) := by omega
      simp [isiD, tyD, isHiddenB, trunc_self, List.replicate, ne]
    | [a, b], hp =>
      have wa := is_rising_ok hL k S (hp.2 a (by simp)) 32
      have wb := is_rising_ok hL k S (hp.2 b (by simp)) 4
      cases e : risingB 32 a <;> simp [isiD, tyD, isHiddenB, trunc_self, e, wa, wb, List.replicate, atI, ixN]
  | _ => first | (simp [isiD, tyD, isHiddenB, trunc_self, List.replicate]; done) | simp [plB] at h
omit hL in
theorem is_make_ok (hL : LWorldsM L) {d : D} (h : plB d = true) : L (k + 2) "is_make" [d] ⟨[], S⟩ = .ok (.bl (isMakeB d)) ⟨[], S⟩ := by
  rw [hL.is_make]
  unfold bodyF b_is_make
  cases d with
  | tup l =>
    have hp := pl_tup.mp h
    match l, hp with
    | [], _ => simp [isiD, tyD, isMakeB, trunc_self, List.replicate]
    | [_], _ => simp [isiD, tyD, isMakeB, trunc_self, List.replicate]
    | [_, _], _ => simp [isiD, tyD, isMakeB, trunc_self, List.replicate]
    | [_, _, _], _ => simp [isiD, tyD, isMakeB, trunc_self, List.replicate]
    | [_, _, _, _], _ => simp [isiD, tyD, isMakeB, trunc_self, List.replicate]
    | _ :: _ :: _ :: _ :: _ :: _ :: r, _ =>
      have ne : ¬ ((r.length : Int) + 1 + 1 + 1 + 1 + 1 + 1 = 5) := by omega
      simp [isiD, tyD, isMakeB, trunc_self, List.replicate, ne]
    | [x1, x2, x3, x4, x5], hp =>
      have q1 := hp.2 x1 (by simp)
      have q2 := hp.2 x2 (by simp)
      have q3 := hp.2 x3 (by simp)
      have q4 := hp.2 x4 (by simp)
      have q5 := hp.2 x5 (by simp)
      have c : evN (L (k + 1)) c1_is_make ⟨[.va (.tup [x1, x2, x3, x4, x5]), .un, .un], S⟩ = .ok (.lst ([(x1, 4), (x2, 9), (x3, 9), (x4, 4), (x5, 1)].map fun p => .bl (amongB 0 p.2 p.1))) ⟨[.va (.tup [x1, x2, x3, x4, x5]), .un, .un], S⟩ := by
        unfold c1_is_make
        refine lc_mapI (g := fun p : D × Int => .tup [p.1, .int p.2]) (fun p => [.va (.tup [x1, x2, x3, x4, x5]), .va p.1, .va (.int p.2)]) (by simp [zipF]) rfl (by simp [Tg.slots, Tgs.slots]) (fun x _ => by simp) (fun x _ => by simp) (fun x hx => ?_) (by rw [sizeLine_eq]; simp)
        have q : plB x.1 = true := by
          simp at hx
          rcases hx with rfl | rfl | rfl | rfl | rfl <;> assumption
        simp [is_among_ok hL.toLWorlds k S q]
      have fl := flatTs_bl (fun p : D × Int => amongB 0 p.2 p.1) [(x1, 4), (x2, 9), (x3, 9), (x4, 4), (x5, 1)]
      simp at fl
      simp [isiD, tyD, isMakeB, trunc_self, c, List.replicate, fl]
  | _ => first | (simp [isiD, tyD, isMakeB, trunc_self, List.replicate]; done) | simp [plB] at h
end
end LB

namespace LB
open PySem L2 PyProof.Rows
/-! ### draws: mixed, turned -/
structure LTurn (L : Nat → Str → Fn) : Prop where
  mixed : ∀ k, L (k + 1) "_law_mixed" = bodyF 4 (evTs (L k) b__law_mixed)
  turned : ∀ k, L (k + 1) "_law_turned" = bodyF 3 (evTs (L k) b__law_turned)
abbrev bigP : Int := 170141183460469231731687303715884105727
def turnT (j : Int) : Int := if 1 < j % 4 then (if j % 2 = 0 then 99182736455463728190019283746556473 else 31415926535897932384626433832795029) else if j % 2 = 0 then 73029184756102938475610293847561029 else 58203947561830297465018273645019283
def turnN (n j : Int) : Int := (n + 1 + 5081 * j * j) * turnT j % bigP
theorem turnN_lo (n j : Int) : 0 ≤ turnN n j := Int.emod_nonneg _ (by decide)
theorem turnN_hi (n j : Int) : turnN n j < 2 ^ 127 := by
  have := Int.emod_lt_of_pos ((n + 1 + 5081 * j * j) * turnT j) (show (0 : Int) < bigP by decide)
  unfold turnN
  exact Int.lt_trans this (by decide)
/-- what a drawn number is -/
def Dr (n : Int) : Prop := 0 ≤ n ∧ n < 2 ^ 200
theorem turnN_dr (n j : Int) : Dr (turnN n j) := ⟨turnN_lo n j, Int.lt_trans (turnN_hi n j) (by decide)⟩
theorem Dr.div {n : Int} (h : Dr n) {j : Int} (hj : 0 < j) : Dr (n / j) := ⟨Int.ediv_nonneg h.1 (by omega), Int.lt_of_le_of_lt (Int.ediv_le_self _ h.1) h.2⟩
theorem bodyF_rt {n : Nat} {b : Mo Fl} {l : List D} {S : List SO} {d : D} {ρ : List Sl} (h : b ⟨l.map .va ++ List.replicate (n - l.length) .un, S⟩ = .ok (.rt d) ⟨ρ, S⟩) : bodyF n b l ⟨[], S⟩ = .ok d ⟨[], S⟩ := by
  unfold bodyF
  simp only [h, trunc_self]
section
variable {L : Nat → Str → Fn} (hL : LTurn L) (k : Nat) (S : List SO)
include hL
theorem turned_ok {n j : Int} (hn : Dr n) (hj : 0 ≤ j) (hj2 : j < 1000) : L (k + 1) "_law_turned" [.int n, .int j] ⟨[], S⟩ = .ok (.int (turnN n j)) ⟨[], S⟩ := by
  rw [hL.turned]
  unfold bodyF b__law_turned
  have bj : Bd 10 j := .of hj (by omega)
  have bn : Bd 200 n := .of hn.1 hn.2
  have b1 : Bd 23 (5081 * j) := Bd.mul (a := 13) (b := 10) (by decide) bj (by decide)
  have b2 : Bd 210 (n + 1 + 5081 * j * j) := Bd.add (Bd.add bn (b := 1) (by decide) (c := 201) (by decide) (by decide)) (Bd.mul b1 bj (c := 33) (by decide)) (by decide) (by decide)
  have m1 : MulOk 5081 j := Bd.ok (a := 13) (i := 5081) (by decide) bj (by decide) (by decide)
  have m2 : MulOk (5081 * j) j := Bd.ok b1 bj (by decide) (by decide)
  have m3 : ∀ (t : Int), Bd 200 t → MulOk (n + 1 + 5081 * j * j) t := fun t ht => Bd.ok b2 ht (by decide) (by decide)
  have h2 : j % 2 = 0 ∨ j % 2 = 1 := by omega
  have h4 : (1 < j % 4) ∨ ¬ (1 < j % 4) := by omega
  have t1 := m3 _ (show Bd 200 99182736455463728190019283746556473 by decide)
  have t2 := m3 _ (show Bd 200 73029184756102938475610293847561029 by decide)
  have t3 := m3 _ (show Bd 200 31415926535897932384626433832795029 by decide)
  have t4 := m3 _ (show Bd 200 58203947561830297465018273645019283 by decide)
  rcases h2 with h2 | h2 <;> rcases h4 with h4 | h4
  all_goals simp [h2, h4, m1, m2, t1, t2, t3, t4, sizeLine_eq, List.replicate, trunc_self, turnN, turnT, atI, ixN, Mo.opt]
def mixN (ns : List Int) (j : Int) : Int := (((ns ++ [0]).getD (j % (if (1 : Int) < ns.length then (ns.length : Int) else 1)).toNat 0) % 1000000000000000000000000000000000000000000000000000000000000 + 1 + 1009 * j * j) * (91520834467120936671528473920164857 + 2 * j) % bigP
theorem mixed_ok {ns : List Int} {j : Int} (hl : ns.length ≤ 63) (hj : 0 ≤ j) (hj2 : j < 1000) : L (k + 1) "_law_mixed" [.lst (ns.map .int), .int j] ⟨[], S⟩ = .ok (.int (mixN ns j)) ⟨[], S⟩ := by
  rw [hL.mixed]
  unfold bodyF b__law_mixed mixN
  generalize hM : (if (1 : Int) < ns.length then (ns.length : Int) else 1) = M
  have M1 : 0 < M := by rw [← hM]; split <;> omega
  have M2 : M ≤ ns.length + 1 := by rw [← hM]; split <;> omega
  have i1 := Int.emod_nonneg j (show M ≠ 0 by omega)
  have i2 := Int.emod_lt_of_pos j M1
  have hc : atI (ns.map D.int ++ [.int 0]) (j % M) = some (.int ((ns ++ [0]).getD (j % M).toNat 0)) := by
    have e3 : ns.map D.int ++ [.int 0] = (ns ++ [0]).map D.int := by simp
    have lt : (j % M).toNat < (ns ++ [0]).length := by simp; omega
    unfold atI ixN
    rw [e3, if_pos i1, if_pos (by simp; omega), Option.bind_some, List.getElem?_map, List.getElem?_eq_getElem lt, List.getD_eq_getElem?_getD, List.getElem?_eq_getElem lt]
    rfl
  generalize (ns ++ [0]).getD (j % M).toNat 0 = c at *
  have bj : Bd 10 j := .of hj (by omega)
  generalize hC : c % 1000000000000000000000000000000000000000000000000000000000000 = C
  have bC : Bd 200 C := .of (by rw [← hC]; omega) (by rw [← hC]; omega)
  generalize hT : 91520834467120936671528473920164857 + 2 * j = T
  have bT : Bd 120 T := .of (by omega) (by omega)
  have b1 : Bd 21 (1009 * j) := Bd.mul (a := 11) (b := 10) (by decide) bj (by decide)
  have b2 : Bd 210 (C + 1 + 1009 * j * j) := Bd.add (Bd.add bC (b := 1) (by decide) (c := 201) (by decide) (by decide)) (Bd.mul b1 bj (c := 33) (by decide)) (by decide) (by decide)
  have m1 : MulOk 1009 j := Bd.ok (a := 11) (i := 1009) (by decide) bj (by decide) (by decide)
  have m2 : MulOk (1009 * j) j := Bd.ok b1 bj (by decide) (by decide)
  have m3 : MulOk (C + 1 + 1009 * j * j) T := Bd.ok b2 bT (by decide) (by decide)
  have m4 : MulOk 2 j := Bd.ok (a := 2) (i := 2) (by decide) bj (by decide) (by decide)
  have p1 : PowOk 10 60 := ⟨by decide, by decide, by decide⟩
  have sz : ns.length + 1 ≤ 16777216 := by omega
  simp [hM, hC, hT, hc, m1, m2, m3, m4, p1, M1, sz, sizeLine_eq, List.replicate, trunc_self]
end
end LB

namespace LB
open PySem L2 PyProof.Rows
/-! ### the law's own tests of worlds, hidden, makes -/
structure LNums (L : Nat → Str → Fn) : Prop where
  numbers : ∀ k, L (k + 1) "_law_numbers" = bodyF 4 (evTs (L k) b__law_numbers)
  w : ∀ k, L (k + 1) "_law_is_world" = bodyF 2 (evTs (L k) b__law_is_world)
  h : ∀ k, L (k + 1) "_law_is_hidden" = bodyF 2 (evTs (L k) b__law_is_hidden)
  m : ∀ k, L (k + 1) "_law_is_make" = bodyF 3 (evTs (L k) b__law_is_make)
theorem toPs_any {α : Type} (f : α → Bool) : ∀ l : List α, (D.toPs (l.map fun x => D.bl (f x))).any (fun z => PyData.eqv z (D.toP (.bl true))) = l.any f
  | [] => rfl
  | x :: l => by
    simp only [List.map_cons, D.toPs, List.any_cons, toPs_any f l]
    congr 1
    simp [PyData.eqv, D.toP]
theorem toPs_lay {α : Type} (f : α → Bool) : ∀ l : List α, PyData.canLayAll0 (D.toPs (l.map fun x => D.bl (f x))) = true
  | [] => by simp [D.toPs, PyData.canLayAll0]
  | x :: l => by simp [D.toPs, PyData.canLayAll0, toPs_lay f l, D.toP, PyData.canLay0]
theorem z_in (x y : D) : cmpD .isin x y = inD x y := by cases x <;> cases y <;> rfl
@[simp] theorem z_inbl {α : Type} (f : α → Bool) (l : List α) : cmpD .isin (.bl true) (.lst (l.map fun x => D.bl (f x))) = some (l.any f) := by
  rw [z_in]
  have s : SeqAt.shaped (D.toP (.bl true)) = true := by decide +kernel
  simp only [inD, s, toPs_lay, Bool.and_self, if_true, toPs_any]
@[simp] theorem flatTs_n : flatTs [] = some [] := rfl
@[simp] theorem flatTs_b (b : Bool) (l : List D) : flatTs (.bl b :: l) = (flatTs l).map (b :: ·) := by
  simp only [flatTs, flatT]
  cases flatTs l <;> rfl
def intB : D → Bool
  | .int _ => true
  | _ => false
theorem not_ints : ∀ {l : List D}, (l.any fun d => !intB d) = false → ∃ ns : List Int, l = ns.map .int
  | [], _ => ⟨[], rfl⟩
  | d :: l, h => by
    simp only [List.any_cons, Bool.or_eq_false_iff] at h
    obtain ⟨ns, rfl⟩ := not_ints h.2
    cases d <;> simp [intB] at h
    exact ⟨_ :: ns, rfl⟩
theorem some_not {lo hi : Int} : ∀ {l : List D}, (l.any fun d => !intB d) = true → l.all (amongB lo hi) = false
  | d :: l, h => by
    simp only [List.any_cons, Bool.or_eq_true] at h
    rw [List.all_cons]
    rcases h with h | h
    · cases d <;> first | rfl | simp [intB] at h
    · rw [some_not h, Bool.and_false]
def leB (lo hi : Int) (n : Int) : Bool := decide (lo ≤ n) && decide (n ≤ hi)
theorem intsD_map : ∀ ns : List Int, intsD (ns.map .int) = some ns
  | [] => rfl
  | n :: ns => by simp [intsD, intsD_map ns, intD]
theorem ints_lay : ∀ ns : List Int, PyData.canLayAll0 (D.toPs (ns.map .int)) = true ∧ PyData.depthAll (D.toPs (ns.map .int)) = 0
  | [] => by simp [D.toPs, PyData.canLayAll0, PyData.depthAll]
  | n :: ns => by simp [D.toPs, PyData.canLayAll0, PyData.depthAll, ints_lay ns, D.toP, PyData.canLay0, PyData.depth]
theorem ints_eqv : ∀ ns ms : List Int, PyData.eqvAll (D.toPs (ns.map .int)) (D.toPs (ms.map .int)) = decide (ns = ms)
  | [], [] => by simp [D.toPs, PyData.eqvAll]
  | [], _ :: _ => by simp [D.toPs, PyData.eqvAll]
  | _ :: _, [] => by simp [D.toPs, PyData.eqvAll]
  | n :: ns, m :: ms => by
    simp only [List.map_cons, D.toPs, PyData.eqvAll, ints_eqv ns ms, D.toP, PyData.eqv]
    by_cases e : n = m <;> by_cases e2 : ns = ms <;> simp [e, e2]
@[simp] theorem z_eql (ns ms : List Int) : cmpD .eq (.lst (ns.map .int)) (.lst (ms.map .int)) = some (decide (ns = ms)) := by
  show eqD _ _ = _
  have sh : ∀ l : List Int, SeqAt.shaped (D.toP (.lst (l.map .int))) = true := fun l => by
    simp [SeqAt.shaped, D.toP, PyData.canLay0, PyData.depth, ints_lay l]
  unfold eqD
  rw [sh, sh, if_pos (by rfl)]
  simp only [D.toP, PyData.eqv, ints_eqv]
@[simp] theorem z_eqt (ns ms : List Int) : cmpD .eq (.tup (ns.map .int)) (.tup (ms.map .int)) = some (decide (ns = ms)) := by
  show eqD _ _ = _
  have sh : ∀ l : List Int, SeqAt.shaped (D.toP (.tup (l.map .int))) = true := fun l => by
    simp [SeqAt.shaped, D.toP, PyData.canLay0, PyData.depth, ints_lay l]
  unfold eqD
  rw [sh, sh, if_pos (by rfl)]
  simp only [D.toP, PyData.eqv, ints_eqv]
theorem sortU_asc (ns : List Int) : decide (sortU ns = ns) = ascB ns := by
  cases h : ascB ns with
  | true =>
    have p := ascB_iff.mp h
    exact decide_eq_true (same_of_pw sortU_pw p fun x => sortU_mem)
  | false =>
    refine decide_eq_false fun e => ?_
    have := ascB_iff.mpr (e ▸ sortU_pw (l := ns))
    rw [h] at this
    cases this
section
variable {L : Nat → Str → Fn} (hL : LNums L) (k : Nat) (S : List SO)
include hL
theorem numbers_ok {d : D} (h : plB d = true) (lo hi : Int) : L (k + 1) "_law_numbers" [d, .int lo, .int hi] ⟨[], S⟩ = .ok (.bl (numB lo hi d)) ⟨[], S⟩ := by
  rw [hL.numbers]
  unfold bodyF b__law_numbers
  cases d with
  | tup l =>
    have hp := pl_tup.mp h
    have c : evN (L k) c1__law_numbers ⟨[.va (.tup l), .va (.int lo), .va (.int hi), .un], S⟩ = .ok (.lst (l.map fun x => .bl (!intB x))) ⟨[.va (.tup l), .va (.int lo), .va (.int hi), .un], S⟩ := by
      unfold c1__law_numbers
      refine lc_map (fun x => [.va (.tup l), .va (.int lo), .va (.int hi), .va x]) (by simp [Mo.opt]) rfl (by simp [Tg.slots]) (fun x _ => by simp) (fun x _ => by simp) (fun x hx => ?_) (by rw [sizeLine_eq]; omega)
      have := hp.2 x hx
      cases x <;> first | (simp [isiD, tyD, intB]; done) | simp [plB] at this
    cases e : l.any fun x => !intB x with
    | true => simp [isiD, tyD, numB, trunc_self, c, e, some_not e, List.replicate]
    | false =>
      obtain ⟨ns, hl⟩ := not_ints e
      have c2 : evN (L k) c2__law_numbers ⟨[.va (.tup l), .va (.int lo), .va (.int hi), .un], S⟩ = .ok (.lst (ns.map fun n => .bl (leB lo hi n))) ⟨[.va (.tup l), .va (.int lo), .va (.int hi), .un], S⟩ := by
        unfold c2__law_numbers
        refine lc_mapI (g := D.int) (fun n => [.va (.tup l), .va (.int lo), .va (.int hi), .va (.int n)]) (by simp [hl]) rfl (by simp [Tg.slots]) (fun x _ => by simp) (fun x _ => by simp) (fun n hx => ?_) (by rw [sizeLine_eq]; have := hp.1; rw [hl] at this; simp at this; omega)
        by_cases e : lo ≤ n <;> simp [chM, Opd.pre, Opd.get, e, leB]
      have al : l.all (amongB lo hi) = ns.all (leB lo hi) := by rw [hl, List.all_map]; rfl
      simp [isiD, tyD, numB, trunc_self, c, c2, e, List.replicate, List.all_map, Function.comp_def, al]
  | _ => first | (simp [isiD, tyD, numB, trunc_self, List.replicate]; done) | simp [plB] at h
theorem areWords_num {n : Int} {d : D} : areWordsB n d = (numB 0 15 d && decide (lenD d = some n.toNat ∧ 0 ≤ n)) := by
  cases d with
  | tup l =>
    simp only [areWordsB, numB, z_lenT, Option.some.injEq]
    rw [Bool.and_comm]
    congr 1
    simp only [decide_eq_decide]
    omega
  | _ => simp [areWordsB, numB]
theorem num_tup {lo hi : Int} {d : D} (h : numB lo hi d = true) : ∃ l, d = .tup l := by
  cases d <;> simp [numB] at h
  exact ⟨_, rfl⟩
theorem law_world_ok {d : D} (h : plB d = true) : L (k + 2) "_law_is_world" [d] ⟨[], S⟩ = .ok (.bl (isWorldB d)) ⟨[], S⟩ := by
  rw [hL.w]
  unfold bodyF b__law_is_world
  cases d with
  | tup l =>
    have hp := pl_tup.mp h
    match l, hp with
    | [], _ => simp [isiD, tyD, isWorldB, trunc_self, List.replicate]
    | [a], _ => simp [isiD, tyD, isWorldB, trunc_self, List.replicate]
    | a :: b :: c :: r, _ =>
      have ne : ¬ ((r.length : Int) + 1 + 1 + 1 = 2) := by omega
      simp [isiD, tyD, isWorldB, trunc_self, List.replicate, ne]
    | [a, b], hp =>
      have ha := hp.2 a (by simp)
      have hb := hp.2 b (by simp)
      have w := numbers_ok hL k S ha 0 15
      cases e : numB 0 15 a with
      | false =>
        have q : areWordsB 32 a = false := by rw [areWords_num hL, e]; rfl
        cases b <;> simp [isiD, tyD, isWorldB, trunc_self, e, w, List.replicate, atI, ixN, q]
      | true =>
        obtain ⟨la, rfl⟩ := num_tup hL e
        have q : areWordsB 32 (.tup la) = decide ((la.length : Int) = 32) := by
          simp only [numB] at e
          simp only [areWordsB, e, Bool.and_true]
        cases b with
        | tup t =>
          have ht := pl_tup.mp hb
          have c : evN (L (k + 1)) c1__law_is_world ⟨[.va (.tup [.tup la, .tup t]), .un], S⟩ = .ok (.lst (t.map fun x => .bl (areWordsB 16 x))) ⟨[.va (.tup [.tup la, .tup t]), .un], S⟩ := by
            unfold c1__law_is_world
            refine lc_map (fun x => [.va (.tup [.tup la, .tup t]), .va x]) (by simp [Mo.opt, atI, ixN]) rfl (by simp [Tg.slots]) (fun x _ => by simp) (fun x _ => by simp) (fun x hx => ?_) (by rw [sizeLine_eq]; omega)
            have nx := numbers_ok hL k S (ht.2 x hx) 0 15
            cases e : numB 0 15 x with
            | false =>
              have q : areWordsB 16 x = false := by rw [areWords_num hL, e]; rfl
              simp [nx, e, q]
            | true =>
              obtain ⟨lx, rfl⟩ := num_tup hL e
              have q : areWordsB 16 (.tup lx) = decide ((lx.length : Int) = 16) := by
                simp only [numB] at e
                simp only [areWordsB, e, Bool.and_true]
              simp [nx, e, q]
          by_cases e1 : (la.length : Int) = 32 <;> by_cases e2 : (t.length : Int) = 4 <;> simp [isiD, tyD, isWorldB, trunc_self, e, e1, e2, w, List.replicate, atI, ixN, q, c, List.all_map, Function.comp_def]
        | _ => first | (by_cases e1 : (la.length : Int) = 32 <;> simp [isiD, tyD, isWorldB, trunc_self, e, e1, w, List.replicate, atI, ixN, q]; done) | simp [plB] at hb
  | _ => first | (simp [isiD, tyD, isWorldB, trunc_self, List.replicate]; done) | simp [plB] at h
theorem num_ints {lo hi : Int} {d : D} (h : numB lo hi d = true) : ∃ ns : List Int, d = .tup (ns.map .int) := by
  obtain ⟨l, rfl⟩ := num_tup hL h
  obtain ⟨ns, rfl, _⟩ := amongs_int (show l.all (amongB lo hi) = true from h)
  exact ⟨ns, rfl⟩
theorem law_hidden_ok {d : D} (h : plB d = true) : L (k + 2) "_law_is_hidden" [d] ⟨[], S⟩ = .ok (.bl (isHiddenB d)) ⟨[], S⟩ := by
  rw [hL.h]
  unfold bodyF b__law_is_hidden
  cases d with
  | tup l =>
    have hp := pl_tup.mp h
    match l, hp with
    | [], _ => simp [isiD, tyD, isHiddenB, trunc_self, List.replicate]
    | [a], _ => simp [isiD, tyD, isHiddenB, trunc_self, List.replicate]
    | a :: b :: c :: r, _ =>
      have ne : ¬ ((r.length : Int) + 1 + 1 + 1 = 2) := by omega
      simp [isiD, tyD, isHiddenB, trunc_self, List.replicate, ne]
    | [a, b], hp =>
      have pa := hp.2 a (by simp)
      have pb := hp.2 b (by simp)
      have ha := numbers_ok hL k S pa 0 31
      have hb := numbers_ok hL k S pb 0 3
      have no : ∀ (n : Int) (x : D), numB 0 (n - 1) x = false → risingB n x = false := fun n x e => by
        cases x <;> first | rfl | (simp only [numB] at e; simp only [risingB, e, Bool.false_and])
      cases e : numB 0 31 a with
      | false => simp [isiD, tyD, isHiddenB, trunc_self, List.replicate, atI, ixN, ha, e, no 32 a e]
      | true =>
        cases e2 : numB 0 3 b with
        | false => simp [isiD, tyD, isHiddenB, trunc_self, List.replicate, atI, ixN, ha, hb, e, e2, no 4 b e2]
        | true =>
          obtain ⟨ns, rfl⟩ := num_ints hL e
          obtain ⟨ms, rfl⟩ := num_ints hL e2
          have la := (pl_tup.mp pa).1
          have lb := (pl_tup.mp pb).1
          rw [List.length_map] at la lb
          have ra : risingB 32 (.tup (ns.map .int)) = ascB ns := by
            simp only [numB] at e
            simp only [risingB, numsOf_map]
            rw [show (32 : Int) - 1 = 31 from rfl, e, Bool.true_and]
          have rb : risingB 4 (.tup (ms.map .int)) = ascB ms := by
            simp only [numB] at e2
            simp only [risingB, numsOf_map]
            rw [show (4 : Int) - 1 = 3 from rfl, e2, Bool.true_and]
          have c : evN (L (k + 1)) c1__law_is_hidden ⟨[.va (.tup [.tup (ns.map .int), .tup (ms.map .int)]), .un], S⟩ = .ok (.lst ([ns, ms].map fun x => .bl (ascB x))) ⟨[.va (.tup [.tup (ns.map .int), .tup (ms.map .int)]), .un], S⟩ := by
            unfold c1__law_is_hidden
            refine lc_mapI (g := fun x : List Int => .tup (x.map .int)) (fun x => [.va (.tup [.tup (ns.map .int), .tup (ms.map .int)]), .va (.tup (x.map .int))]) (by simp) rfl (by simp [Tg.slots]) (fun x _ => by simp) (fun x _ => by simp) (fun x hx => ?_) (by rw [sizeLine_eq]; simp)
            have lx : x.length < 64 := by
              simp at hx
              rcases hx with rfl | rfl <;> omega
            simp [ssetN, intsD_map, lx, sortU_asc]
          have fl := flatTs_bl ascB [ns, ms]
          simp at fl
          simp [isiD, tyD, isHiddenB, trunc_self, List.replicate, atI, ixN, ha, hb, e, e2, ra, rb, c, fl]
  | _ => first | (simp [isiD, tyD, isHiddenB, trunc_self, List.replicate]; done) | simp [plB] at h
theorem law_make_ok {d : D} (h : plB d = true) : L (k + 2) "_law_is_make" [d] ⟨[], S⟩ = .ok (.bl (isMakeB d)) ⟨[], S⟩ := by
  rw [hL.m]
  unfold bodyF b__law_is_make
  have hn := numbers_ok hL k S h 0 9
  cases e : numB 0 9 d with
  | false =>
    have q : isMakeB d = false := by
      cases d with
      | tup l =>
        match l with
        | [] => rfl
        | [_] => rfl
        | [_, _] => rfl
        | [_, _, _] => rfl
        | [_, _, _, _] => rfl
        | _ :: _ :: _ :: _ :: _ :: _ :: r => rfl
        | [a, b, c, d, f] =>
          cases q : isMakeB (.tup [a, b, c, d, f]) with
          | false => rfl
          | true =>
            simp only [isMakeB, Bool.and_eq_true] at q
            obtain ⟨q1, q2, q3, q4, q5⟩ := q
            obtain ⟨_, rfl, _⟩ := among_int q1
            obtain ⟨_, rfl, _⟩ := among_int q2
            obtain ⟨_, rfl, _⟩ := among_int q3
            obtain ⟨_, rfl, _⟩ := among_int q4
            obtain ⟨_, rfl, _⟩ := among_int q5
            simp [numB, amongB] at e
            omega
      | _ => rfl
    simp [trunc_self, List.replicate, hn, e, q]
  | true =>
    rw [e] at hn
    obtain ⟨ns, rfl⟩ := num_ints hL e
    match ns with
    | [] => simp only [List.map] at hn; simp [trunc_self, List.replicate, hn, isMakeB]
    | [_] => simp only [List.map] at hn; simp [trunc_self, List.replicate, hn, isMakeB]
    | [_, _] => simp only [List.map] at hn; simp [trunc_self, List.replicate, hn, isMakeB]
    | [_, _, _] => simp only [List.map] at hn; simp [trunc_self, List.replicate, hn, isMakeB]
    | [_, _, _, _] => simp only [List.map] at hn; simp [trunc_self, List.replicate, hn, isMakeB]
    | a :: b :: c :: d :: f :: g :: r =>
      have ne : ¬ ((r.length : Int) + 1 + 1 + 1 + 1 + 1 + 1 = 5) := by omega
      simp only [List.map] at hn
      simp [trunc_self, List.replicate, hn, isMakeB, ne]
    | [a, b, c, d, f] =>
      have e' := e
      simp [numB, amongB] at e'
      have cc : evN (L (k + 1)) c1__law_is_make ⟨[.va (.tup [.int a, .int b, .int c, .int d, .int f]), .un, .un], S⟩ = .ok (.lst ([(a, 4), (b, 9), (c, 9), (d, 4), (f, 1)].map fun p => .bl (decide (p.1 ≤ p.2)))) ⟨[.va (.tup [.int a, .int b, .int c, .int d, .int f]), .un, .un], S⟩ := by
        unfold c1__law_is_make
        refine lc_mapI (g := fun p : Int × Int => .tup [.int p.1, .int p.2]) (fun p => [.va (.tup [.int a, .int b, .int c, .int d, .int f]), .va (.int p.1), .va (.int p.2)]) (by simp [zipF, sizeLine_eq]) rfl (by simp [Tg.slots, Tgs.slots]) (fun x _ => by simp) (fun x _ => by simp) (fun x hx => by simp) (by rw [sizeLine_eq]; simp)
      have fl := flatTs_bl (fun p : Int × Int => decide (p.1 ≤ p.2)) [(a, 4), (b, 9), (c, 9), (d, 4), (f, 1)]
      simp at fl
      simp only [List.map] at hn
      simp [trunc_self, List.replicate, hn, isMakeB, amongB, cc, e']
end
end LB

namespace LB
open PySem L2 PyProof.Rows
structure LGen (L : Nat → Str → Fn) : Prop where
  world : ∀ k, L (k + 1) "_law_world" = bodyF 5 (evTs (L k) b__law_world)
  hidden : ∀ k, L (k + 1) "_law_hidden" = bodyF 5 (evTs (L k) b__law_hidden)
structure LGenM (L : Nat → Str → Fn) : Prop extends LGen L where
  make : ∀ k, L (k + 1) "_law_make" = bodyF 5 (evTs (L k) b__law_make)
structure LBent (L : Nat → Str → Fn) : Prop where
  bent : ∀ k, L (k + 1) "_law_bent" = bodyF 5 (evTs (L k) b__law_bent)
  within : ∀ k, L (k + 1) "_law_bent_within" = bodyF 5 (evTs (L k) b__law_bent_within)
  truths : ∀ k, L (k + 1) "_law_truths" = bodyF 2 (evTs (L k) b__law_truths)
/-! ### made worlds, hidden, makes -/
def Cell (d : D) : Prop := ∃ i, d = .int i ∧ 0 ≤ i ∧ i < 100
def Row (d : D) : Prop := ∃ l, d = .tup l ∧ l.length ≤ 32 ∧ ∀ x ∈ l, Cell x
def Tbl (d : D) : Prop := ∃ l, d = .tup l ∧ l.length ≤ 4 ∧ ∀ x ∈ l, Row x
def Thing (d : D) : Prop := ∃ l, d = .tup l ∧ 0 < l.length ∧ l.length ≤ 5 ∧ ∀ x ∈ l, Cell x ∨ Row x ∨ Tbl x
def rowN (n a m : Int) (c : Nat) : D := .tup ((List.range c).map fun (k : Nat) => .int (turnN n (a + (k : Int)) / 7 % m))
def worldN (n : Int) : D := .tup [rowN n 0 16 32, .tup ((List.range 4).map fun (t : Nat) => rowN n (40 + 16 * (t : Int)) 16 16)]
theorem worldN_thing (n : Int) : Thing (worldN n) := by
  have r : ∀ a c, c ≤ 32 → Row (rowN n a 16 c) := fun a c hc => ⟨_, rfl, by simpa using hc, fun x hx => by
    obtain ⟨i, _, rfl⟩ := List.mem_map.mp hx
    exact ⟨_, rfl, by omega, by omega⟩⟩
  refine ⟨_, rfl, by simp, by simp, fun x hx => ?_⟩
  rcases List.mem_cons.mp hx with rfl | hx
  · exact .inr (.inl (r _ _ (by omega)))
  · rw [List.mem_singleton] at hx
    subst hx
    exact .inr (.inr ⟨_, rfl, by simp, fun x hx => by
      obtain ⟨i, _, rfl⟩ := List.mem_map.mp hx
      exact r _ _ (by omega)⟩)
def pick3 (a b c x : Int) : Int := if x = 0 then a else if x = 1 then b else c
theorem at3 (a b c x : Int) (h : 0 ≤ x) (h2 : x ≤ 2) : atI [D.int a, .int b, .int c] x = some (.int (pick3 a b c x)) := by
  rcases (by omega : x = 0 ∨ x = 1 ∨ x = 2) with rfl | rfl | rfl <;> rfl
def mosts5 : List (Nat × Int) := [(0, 4), (1, 9), (2, 9), (3, 4), (4, 1)]
section
variable {L : Nat → Str → Fn} (hT : LTurn L) (hG : LGen L) (k : Nat) (S : List SO)
include hT hG
theorem world_ok {n : Int} (hn : Dr n) : L (k + 2) "_law_world" [.int n] ⟨[], S⟩ = .ok (worldN n) ⟨[], S⟩ := by
  rw [hG.world]
  unfold bodyF b__law_world
  have s32 : small62 32 = true := by decide
  have s16 : small62 16 = true := by decide
  have s4 : small62 4 = true := by decide
  have c1 : evN (L (k + 1)) c1__law_world ⟨[.va (.int n), .un, .un, .un, .un], S⟩ = .ok (.lst ((List.range 32).map fun (x : Nat) => .int (turnN n (0 + (x : Int)) / 7 % 16))) ⟨[.va (.int n), .un, .un, .un, .un], S⟩ := by
    unfold c1__law_world
    refine lc_mapI (g := fun x : Nat => .int (x : Int)) (fun (x : Nat) => [.va (.int n), .un, .un, .va (.int (x : Int)), .un]) (by simp [s32]) rfl (by simp [Tg.slots]) (fun x _ => by simp) (fun x _ => by simp) (fun x hx => ?_) (by rw [sizeLine_eq]; simp)
    have lt := List.mem_range.mp hx
    simp [turned_ok hT k S hn (j := (x : Int)) (by omega) (by omega)]
  have c2 : ∀ (b : Sl) (t : Nat), t < 4 → evN (L (k + 1)) c2__law_world ⟨[.va (.int n), b, .un, .un, .va (.int (t : Int))], S⟩ = .ok (.lst ((List.range 16).map fun (x : Nat) => .int (turnN n (40 + 16 * (t : Int) + (x : Int)) / 7 % 16))) ⟨[.va (.int n), b, .un, .un, .va (.int (t : Int))], S⟩ := by
    intro b t ht
    unfold c2__law_world
    refine lc_mapI (g := fun x : Nat => .int (x : Int)) (fun (x : Nat) => [.va (.int n), b, .un, .va (.int (x : Int)), .va (.int (t : Int))]) (by simp [s16]) rfl (by simp [Tg.slots]) (fun x _ => by simp) (fun x _ => by simp) (fun x hx => ?_) (by rw [sizeLine_eq]; simp)
    have lt := List.mem_range.mp hx
    have m1 : MulOk 16 (t : Int) := MulOk.small (by decide)
    simp [turned_ok hT k S hn (j := 40 + 16 * (t : Int) + (x : Int)) (by omega) (by omega), m1]
  have c3 : ∀ (b : D), evN (L (k + 1)) c3__law_world ⟨[.va (.int n), .va b, .un, .un, .un], S⟩ = .ok (.lst ((List.range 4).map fun (t : Nat) => rowN n (40 + 16 * (t : Int)) 16 16)) ⟨[.va (.int n), .va b, .un, .un, .un], S⟩ := by
    intro b
    unfold c3__law_world
    refine lc_mapI (g := fun x : Nat => .int (x : Int)) (fun (x : Nat) => [.va (.int n), .va b, .un, .un, .va (.int (x : Int))]) (by simp [s4]) rfl (by simp [Tg.slots]) (fun x _ => by simp) (fun x _ => by simp) (fun x hx => ?_) (by rw [sizeLine_eq]; simp)
    simp [c2 (.va b) x (List.mem_range.mp hx), rowN]
  simp [c1, c3, sizeLine_eq, worldN, rowN]
theorem hidden_ok {n : Int} (hn : Dr n) : ∃ d, L (k + 2) "_law_hidden" [.int n] ⟨[], S⟩ = .ok d ⟨[], S⟩ ∧ Thing d := by
  have s32 : small62 32 = true := by decide
  have s4 : small62 4 = true := by decide
  obtain ⟨r, hr, r0, r1⟩ : ∃ r : Int, atI [D.int 1, .int 2, .int 3, .int 16] (n / 3 % 4) = some (.int r) ∧ 0 < r ∧ r < 1073741824 := by
    rcases (by omega : n / 3 % 4 = 0 ∨ n / 3 % 4 = 1 ∨ n / 3 % 4 = 2 ∨ n / 3 % 4 = 3) with e | e | e | e <;> rw [e]
    · exact ⟨1, rfl, by decide, by decide⟩
    · exact ⟨2, rfl, by decide, by decide⟩
    · exact ⟨3, rfl, by decide, by decide⟩
    · exact ⟨16, rfl, by decide, by decide⟩
  have c1 : evN (L (k + 1)) c1__law_hidden ⟨[.va (.int n), .va (.int r), .un, .un, .un], S⟩ = .ok (.lst (((List.range 32).filter fun (x : Nat) => decide (turnN n (2 + (x : Int)) / 5 % r = 0)).map fun (x : Nat) => .int (x : Int))) ⟨[.va (.int n), .va (.int r), .un, .un, .un], S⟩ := by
    unfold c1__law_hidden
    refine lc_okI (g := fun x : Nat => .int (x : Int)) (fun (x : Nat) => [.va (.int n), .va (.int r), .un, .va (.int (x : Int)), .un]) (by simp [s32]) rfl (by simp [Tg.slots]) (fun x _ => by simp) (fun x _ => by simp) (fun x hx => ?_) (fun x hx _ => by simp) (by rw [sizeLine_eq]; simp)
    have lt := List.mem_range.mp hx
    simp [turned_ok hT k S hn (j := 2 + (x : Int)) (by omega) (by omega), r0]
  have c2 : ∀ b : D, evN (L (k + 1)) c2__law_hidden ⟨[.va (.int n), .va (.int r), .va b, .un, .un], S⟩ = .ok (.lst (((List.range 4).filter fun (x : Nat) => decide (turnN n (40 + (x : Int)) / 5 % 2 = 0)).map fun (x : Nat) => .int (x : Int))) ⟨[.va (.int n), .va (.int r), .va b, .un, .un], S⟩ := by
    intro b
    unfold c2__law_hidden
    refine lc_okI (g := fun x : Nat => .int (x : Int)) (fun (x : Nat) => [.va (.int n), .va (.int r), .va b, .un, .va (.int (x : Int))]) (by simp [s4]) rfl (by simp [Tg.slots]) (fun x _ => by simp) (fun x _ => by simp) (fun x hx => ?_) (fun x hx _ => by simp) (by rw [sizeLine_eq]; simp)
    have lt := List.mem_range.mp hx
    simp [turned_ok hT k S hn (j := 40 + (x : Int)) (by omega) (by omega)]
  refine ⟨.tup [.tup (((List.range 32).filter fun (x : Nat) => decide (turnN n (2 + (x : Int)) / 5 % r = 0)).map fun (x : Nat) => .int (x : Int)), .tup (((List.range 4).filter fun (x : Nat) => decide (turnN n (40 + (x : Int)) / 5 % 2 = 0)).map fun (x : Nat) => .int (x : Int))], ?_, ⟨_, rfl, by simp, by simp, fun x hx => ?_⟩⟩
  · rw [hG.hidden]
    unfold bodyF b__law_hidden
    simp [c1, c2, sizeLine_eq, hr]
  · have q : ∀ (c : Nat) (p : Nat → Bool), c ≤ 32 → Row (.tup (((List.range c).filter p).map fun (x : Nat) => .int (x : Int))) := fun c p hc => ⟨_, rfl, by
      rw [List.length_map]
      exact Nat.le_trans (List.length_filter_le _ _) (by simpa using hc), fun x hx => by
      obtain ⟨i, hi, rfl⟩ := List.mem_map.mp hx
      have := List.mem_range.mp (List.mem_filter.mp hi).1
      exact ⟨_, rfl, by omega, by omega⟩⟩
    refine .inr (.inl ?_)
    rcases List.mem_cons.mp hx with rfl | hx
    · exact q 32 _ (by omega)
    · rw [List.mem_singleton] at hx
      subst hx
      exact q 4 _ (by omega)
omit hG in
theorem make_ok (hG : LGenM L) {n : Int} (hn : Dr n) : ∃ d, L (k + 2) "_law_make" [.int n] ⟨[], S⟩ = .ok d ⟨[], S⟩ ∧ Thing d := by
  let R : Nat × Int → Int := fun p => turnN n p.1 / 5 % (p.2 + 1)
  let F : Nat × Int → Int := fun p => pick3 (R p) p.2 0 (turnN n (9 + p.1) / 7 % 5 / 2)
  let ms : D := .tup [.int 4, .int 9, .int 9, .int 4, .int 1]
  have mem : ∀ p ∈ mosts5, 0 ≤ p.1 ∧ p.1 < 5 ∧ 0 < p.2 ∧ p.2 < 10 := by decide
  have c1 : evN (L (k + 1)) c1__law_make ⟨[.va (.int n), .va ms, .un, .un, .un], S⟩ = .ok (.lst (mosts5.map fun p => .int (R p))) ⟨[.va (.int n), .va ms, .un, .un, .un], S⟩ := by
    unfold c1__law_make
    refine lc_mapI (g := fun p : Nat × Int => .tup [.int (p.1 : Int), .int p.2]) (fun p => [.va (.int n), .va ms, .un, .va (.int (p.1 : Int)), .va (.int p.2)]) (by simp [ms, enumF, mosts5]) rfl (by simp [Tg.slots, Tgs.slots]) (fun x _ => by simp) (fun x _ => by simp) (fun x hx => ?_) (by rw [sizeLine_eq]; simp [mosts5])
    obtain ⟨a, b, c, e⟩ := mem x hx
    have c' : 0 < x.2 + 1 := by omega
    simp [turned_ok hT k S hn (j := (x.1 : Int)) (by omega) (by omega), c', R]
  have c2 : evN (L (k + 1)) c2__law_make ⟨[.va (.int n), .va ms, .own (.lst (mosts5.map fun p => .int (R p))), .un, .un], S⟩ = .ok (.lst (mosts5.map fun p => .int (F p))) ⟨[.va (.int n), .va ms, .own (.lst (mosts5.map fun p => .int (R p))), .un, .un], S⟩ := by
    unfold c2__law_make
    refine lc_mapI (g := fun p : Nat × Int => .tup [.int (p.1 : Int), .int p.2]) (fun p => [.va (.int n), .va ms, .own (.lst (mosts5.map fun p => .int (R p))), .va (.int (p.1 : Int)), .va (.int p.2)]) (by simp [ms, enumF, mosts5]) rfl (by simp [Tg.slots, Tgs.slots]) (fun x _ => by simp) (fun x _ => by simp) (fun x hx => ?_) (by rw [sizeLine_eq]; simp [mosts5])
    obtain ⟨a, b, c, e⟩ := mem x hx
    have ra : atI (mosts5.map fun p => D.int (R p)) (x.1 : Int) = some (.int (R x)) := by
      simp only [mosts5, List.mem_cons, List.not_mem_nil, or_false] at hx
      rcases hx with rfl | rfl | rfl | rfl | rfl <;> rfl
    have p3 := at3 (R x) x.2 0 (turnN n (9 + x.1) / 7 % 5 / 2) (by omega) (by omega)
    simp [turned_ok hT k S hn (j := 9 + (x.1 : Int)) (by omega) (by omega), ra, p3, sizeLine_eq, F]
  refine ⟨.tup (mosts5.map fun p => .int (F p)), ?_, ⟨_, rfl, by simp [mosts5], by simp [mosts5], fun x hx => ?_⟩⟩
  · rw [hG.make]
    unfold bodyF b__law_make
    have s5 : sizeLine = 16777216 := sizeLine_eq
    simp [s5]
    simp [show (D.tup [.int 4, .int 9, .int 9, .int 4, .int 1]) = ms from rfl, c1, c2]
  · obtain ⟨p, hp, rfl⟩ := List.mem_map.mp hx
    obtain ⟨a, b, c, e⟩ := mem p hp
    have : 0 ≤ R p ∧ R p < 100 := ⟨Int.emod_nonneg _ (by omega), Int.lt_of_lt_of_le (Int.emod_lt_of_pos _ (by omega)) (by omega)⟩
    refine .inl ⟨_, rfl, ?_⟩
    simp only [F, pick3]
    repeat' split
    all_goals omega
end
end LB

namespace LB
open PySem L2 PyProof.Rows
/-! ### data that may be shown either way, and data that may be shown one way -/
def Tiny (n B : Nat) (d : D) : Prop := plB d = true ∧ ∀ c, Tm c n B d
def Soft (n B : Nat) (d : D) : Prop := plB d = true ∧ ∃ c, Tm c n B d
theorem Tiny.up {n B n' B' : Nat} {d : D} (h : Tiny n B d) (h1 : n ≤ n') (h2 : B ≤ B') : Tiny n' B' d := ⟨h.1, fun c => (h.2 c).up h1 h2⟩
theorem Soft.up {n B n' B' : Nat} {d : D} (h : Soft n B d) (h1 : n ≤ n') (h2 : B ≤ B') : Soft n' B' d := ⟨h.1, h.2.imp fun c q => q.up h1 h2⟩
theorem Tiny.soft {n B : Nat} {d : D} (h : Tiny n B d) : Soft n B d := ⟨h.1, true, h.2 true⟩
theorem soft_tup {n B : Nat} {l : List D} {o : D} (ho : Soft n B o) (hl : l.length ≤ 60) (h : ∀ x ∈ l, Tiny n B x ∨ x = o) : Soft (n + 1) (60 * B + 123) (.tup l) := by
  obtain ⟨c, hc⟩ := ho.2
  refine ⟨pl_tup.mpr ⟨hl, fun x hx => ?_⟩, c, (Tm.tup (L := 60) (n := n) (B := B) (fun x hx => ?_) hl).up (by omega) (by omega)⟩
  · rcases h x hx with q | rfl
    · exact q.1
    · exact ho.1
  · rcases h x hx with q | rfl
    · exact q.2 c
    · exact hc
theorem tiny_tup {n B : Nat} {l : List D} (hl : l.length ≤ 60) (h : ∀ x ∈ l, Tiny n B x) : Tiny (n + 1) (60 * B + 123) (.tup l) :=
  ⟨pl_tup.mpr ⟨hl, fun x hx => (h x hx).1⟩, fun c => (Tm.tup (L := 60) (fun x hx => (h x hx).2 c) hl).up (by omega) (by omega)⟩
theorem tiny_lst {n B : Nat} {l : List D} (hl : l.length ≤ 60) (h : ∀ x ∈ l, Tiny n B x) : Soft (n + 1) (60 * B + 123) (.lst l) :=
  ⟨pl_lst.mpr ⟨hl, fun x hx => (h x hx).1⟩, true, (Tm.lst (L := 60) (fun x hx => (h x hx).2 true) hl).up (by omega) (by omega)⟩
theorem Cell.tiny {d : D} (h : Cell d) : Tiny 0 40 d := by
  obtain ⟨i, rfl, h1, h2⟩ := h
  exact ⟨rfl, fun c => (tm_small c i h1 h2).up (by omega) (by omega)⟩
theorem Row.tiny {d : D} (h : Row d) : Tiny 1 2523 d := by
  obtain ⟨l, rfl, h1, h2⟩ := h
  exact tiny_tup (by omega) fun x hx => (h2 x hx).tiny
theorem Tbl.tiny {d : D} (h : Tbl d) : Tiny 2 151503 d := by
  obtain ⟨l, rfl, h1, h2⟩ := h
  exact tiny_tup (by omega) fun x hx => (h2 x hx).tiny
theorem cut_mem {l : List D} {a b : Option Int} {x : D} (h : x ∈ cutD l a b) : x ∈ l := List.mem_of_mem_drop (List.mem_of_mem_take h)
theorem cut_len {l : List D} {a b : Option Int} : (cutD l a b).length ≤ l.length := by
  unfold cutD
  rw [List.length_take, List.length_drop]
  omega
def oddL : List D := [.non, .bl true, .str "1", .int (-1), .int 16, .int 32, .int 10, .int 5, .int 4, .int 2, .tup [], .lst [], .dct false [], .int 1000000000000000000000000000000, .str "", .tup [.int 0]]
theorem at20 (a b : D) : atI [a, b] 0 = some a := rfl
theorem at21 (a b : D) : atI [a, b] 1 = some b := rfl
theorem tm_lit (c : Bool) {d : D} {n B : Nat} (h1 : cl c d = true) (h2 : d.toP.depth ≤ n) (h3 : d.toP.showable = true) (h4 : d.toP.shown.length ≤ B) (h5 : PyData.strOk d.toP.shown = true) : Tm c n B d := ⟨h1, h2, h3, h4, h5⟩
theorem odd_ok {x : Int} (h : 0 ≤ x) (h2 : x < 16) : ∃ o, atI oddL x = some o ∧ Soft 1 40 o := by
  have lit : ∀ (c : Bool) (d : D), plB d = true → cl c d = true → d.toP.depth ≤ 1 → d.toP.showable = true → d.toP.shown.length ≤ 40 → PyData.strOk d.toP.shown = true → Soft 1 40 d := fun c d h0 h1 h2 h3 h4 h5 => ⟨h0, c, h1, h2, h3, h4, h5⟩
  obtain ⟨k, rfl⟩ := Int.eq_ofNat_of_zero_le h
  have : ∀ k : Fin 16, ∃ o, atI oddL (k.val : Int) = some o ∧ Soft 1 40 o := by
    intro k
    match k with
    | ⟨0, _⟩ => exact ⟨_, rfl, lit true _ rfl rfl (by decide +kernel) rfl (by decide +kernel) (by decide +kernel)⟩
    | ⟨1, _⟩ => exact ⟨_, rfl, lit true _ rfl rfl (by decide +kernel) rfl (by decide +kernel) (by decide +kernel)⟩
    | ⟨2, _⟩ => exact ⟨_, rfl, lit true _ (by decide +kernel) (by decide +kernel) (by decide +kernel) (by decide +kernel) (by decide +kernel) (by decide +kernel)⟩
    | ⟨3, _⟩ => exact ⟨_, rfl, lit true _ (by decide +kernel) (by decide +kernel) (by decide +kernel) (by decide +kernel) (by decide +kernel) (by decide +kernel)⟩
    | ⟨4, _⟩ => exact ⟨_, rfl, lit true _ (by decide +kernel) (by decide +kernel) (by decide +kernel) (by decide +kernel) (by decide +kernel) (by decide +kernel)⟩
    | ⟨5, _⟩ => exact ⟨_, rfl, lit true _ (by decide +kernel) (by decide +kernel) (by decide +kernel) (by decide +kernel) (by decide +kernel) (by decide +kernel)⟩
    | ⟨6, _⟩ => exact ⟨_, rfl, lit true _ (by decide +kernel) (by decide +kernel) (by decide +kernel) (by decide +kernel) (by decide +kernel) (by decide +kernel)⟩
    | ⟨7, _⟩ => exact ⟨_, rfl, lit true _ (by decide +kernel) (by decide +kernel) (by decide +kernel) (by decide +kernel) (by decide +kernel) (by decide +kernel)⟩
    | ⟨8, _⟩ => exact ⟨_, rfl, lit true _ (by decide +kernel) (by decide +kernel) (by decide +kernel) (by decide +kernel) (by decide +kernel) (by decide +kernel)⟩
    | ⟨9, _⟩ => exact ⟨_, rfl, lit true _ (by decide +kernel) (by decide +kernel) (by decide +kernel) (by decide +kernel) (by decide +kernel) (by decide +kernel)⟩
    | ⟨10, _⟩ => exact ⟨_, rfl, lit true _ (by decide +kernel) (by decide +kernel) (by decide +kernel) (by decide +kernel) (by decide +kernel) (by decide +kernel)⟩
    | ⟨11, _⟩ => exact ⟨_, rfl, lit true _ (by decide +kernel) (by decide +kernel) (by decide +kernel) (by decide +kernel) (by decide +kernel) (by decide +kernel)⟩
    | ⟨12, _⟩ => exact ⟨_, rfl, lit false _ (by decide +kernel) (by decide +kernel) (by decide +kernel) (by decide +kernel) (by decide +kernel) (by decide +kernel)⟩
    | ⟨13, _⟩ => exact ⟨_, rfl, lit true _ (by decide +kernel) (by decide +kernel) (by decide +kernel) (by decide +kernel) (by decide +kernel) (by decide +kernel)⟩
    | ⟨14, _⟩ => exact ⟨_, rfl, lit true _ (by decide +kernel) (by decide +kernel) (by decide +kernel) (by decide +kernel) (by decide +kernel) (by decide +kernel)⟩
    | ⟨15, _⟩ => exact ⟨_, rfl, lit true _ (by decide +kernel) (by decide +kernel) (by decide +kernel) (by decide +kernel) (by decide +kernel) (by decide +kernel)⟩
    | ⟨n + 16, h⟩ => exact absurd h (by omega)
  exact this ⟨k, by omega⟩
theorem eq_nil {n B : Nat} {l : List D} (h : Tm true n B (.tup l)) (hn : n ≤ 64) : cmpD .eq (.tup l) (.tup []) = some l.isEmpty := by
  show eqD _ _ = _
  have s : SeqAt.shaped (D.toP (.tup [])) = true := by decide +kernel
  unfold eqD
  rw [h.shaped hn, s, if_pos (by rfl)]
  cases l <;> simp [D.toP, D.toPs, PyData.eqv, PyData.eqvAll]
theorem at_mod {l : List D} {i : Int} (h : 0 < l.length) : ∃ x, atI l (i % (l.length : Int)) = some x ∧ x ∈ l := by
  have h1 := Int.emod_nonneg i (show (l.length : Int) ≠ 0 by omega)
  have h2 := Int.emod_lt_of_pos i (show (0 : Int) < l.length by omega)
  have lt : (i % (l.length : Int)).toNat < l.length := by omega
  refine ⟨l[(i % (l.length : Int)).toNat], ?_, List.getElem_mem lt⟩
  unfold atI ixN
  rw [if_pos h1, if_pos h2, Option.bind_some, List.getElem?_eq_getElem lt]
section
variable {L : Nat → Str → Fn} (hT : LTurn L) (hB : LBent L) (k : Nat) (S : List SO)
include hT hB
theorem bent_ok {l : List D} {n : Int} {nn B : Nat} (hn : Dr n) (hl : l.length ≤ 50) (h1 : 1 ≤ nn) (h40 : 40 ≤ B) (h : ∀ x ∈ l, Tiny nn B x) : ∃ r, L (k + 1) "_law_bent" [.tup l, .int n] ⟨[], S⟩ = .ok r ⟨[], S⟩ ∧ Soft (nn + 1) (60 * B + 123) r := by
  rw [hB.bent]
  unfold bodyF b__law_bent
  obtain ⟨o, ho, so⟩ := odd_ok (x := n / 70 % 16) (by omega) (by omega)
  have so : Soft nn B o := so.up h1 h40
  unfold oddL at ho
  generalize hM : (if (1 : Int) < l.length then (l.length : Int) else 1) = M
  have M1 : 0 < M := by rw [← hM]; split <;> omega
  generalize hA : n / 3 % M = A
  have A0 : 0 ≤ A := by rw [← hA]; exact Int.emod_nonneg _ (by omega)
  have A1 : 0 ≤ A + 1 := by omega
  have A2 : 0 ≤ A + 2 := by omega
  have p1 : PowOk 10 30 := ⟨by decide, by decide, by decide⟩
  have cl : ∀ a b, (cutD l a b).length ≤ 50 := fun a b => Nat.le_trans cut_len hl
  have z1 : ∀ a b, (cutD l a b).length + 1 ≤ 16777216 := fun a b => by have := cl a b; omega
  have z2 : ∀ a b c d, (cutD l a b).length + 1 + (cutD l c d).length ≤ 16777216 := fun a b c d => by have := cl a b; have := cl c d; omega
  have z3 : ∀ a b c d, (cutD l a b).length + (cutD l c d).length ≤ 16777216 := fun a b c d => by have := cl a b; have := cl c d; omega
  have z4 : ∀ a b c d e f, (cutD l a b).length + (cutD l c d).length + (cutD l e f).length ≤ 16777216 := fun a b c d e f => by have := cl a b; have := cl c d; have := cl e f; omega
  have z5 : l.length + 1 ≤ 16777216 := by omega
  have s5 : sizeLine = 16777216 := sizeLine_eq
  generalize hw : n / 11 % 7 = w
  have w1 : 0 ≤ w := by omega
  have w2 : w ≤ 6 := by omega
  have st : ∀ x : List D, x.length ≤ 60 → (∀ y ∈ x, y ∈ l ∨ y = o) → Soft (nn + 1) (60 * B + 123) (.tup x) := fun x hx hy => soft_tup so hx fun y q => (hy y q).imp (h y) id
  have cm : ∀ {a b x}, x ∈ cutD l a b → x ∈ l := cut_mem
  rcases (by omega : w < 2 ∨ w = 2 ∨ w = 3 ∨ w = 4 ∨ w = 5 ∨ w = 6) with e | e | e | e | e | e
  · refine ⟨.tup (cutD l none (some A) ++ [o] ++ cutD l (some (A + 1)) none), ?_, st _ ?_ ?_⟩
    · simp [hM, hA, M1, p1, s5, ho, hw, e, z1, z2]
    · simp [cut_hi, cut_lo, cut_mid, A0, A1, A2]; omega
    · intro y hy
      simp only [List.mem_append, List.mem_singleton] at hy
      rcases hy with (q | q) | q
      · exact .inl (cm q)
      · exact .inr q
      · exact .inl (cm q)
  · refine ⟨.tup (cutD l none (some A) ++ cutD l (some (A + 1)) none), ?_, st _ ?_ ?_⟩
    · simp [hM, hA, M1, p1, s5, ho, hw, e, z1, z2, z3]
    · simp [cut_hi, cut_lo, cut_mid, A0, A1, A2]; omega
    · intro y hy
      simp only [List.mem_append] at hy
      rcases hy with q | q <;> exact .inl (cm q)
  · refine ⟨.tup (cutD l none (some A) ++ cutD l (some A) (some (A + 1)) ++ cutD l (some A) none), ?_, st _ ?_ ?_⟩
    · simp [hM, hA, M1, p1, s5, ho, hw, e, z1, z2, z3, z4]
    · simp [cut_hi, cut_lo, cut_mid, A0, A1, A2]; omega
    · intro y hy
      simp only [List.mem_append] at hy
      rcases hy with (q | q) | q <;> exact .inl (cm q)
  · refine ⟨.tup (cutD l none (some A) ++ (cutD l (some A) (some (A + 2))).reverse ++ cutD l (some (A + 2)) none), ?_, st _ ?_ ?_⟩
    · simp [hM, hA, M1, p1, s5, ho, hw, e, z1, z2, z3, z4]
    · simp [cut_hi, cut_lo, cut_mid, A0, A1, A2]; omega
    · intro y hy
      simp only [List.mem_append, List.mem_reverse] at hy
      rcases hy with (q | q) | q <;> exact .inl (cm q)
  · refine ⟨.lst l, ?_, tiny_lst (by omega) h⟩
    simp [hM, hA, M1, p1, s5, ho, hw, e, z1, z2, z3, z4, z5, at20, at21]
  · refine ⟨.tup (l ++ [.int (n / 70 % 9)]), ?_, tiny_tup (by simp; omega) ?_ |>.soft⟩
    · simp [hM, hA, M1, p1, s5, ho, hw, e, z1, z2, z3, z4, z5, at20, at21]
    · intro y hy
      rcases List.mem_append.mp hy with q | q
      · exact h y q
      · rw [List.mem_singleton] at q
        exact (Cell.tiny ⟨_, q, by omega, by omega⟩).up (by omega) h40
theorem within_ok {l : List D} {n : Int} (hn : Dr n) (l0 : 0 < l.length) (l5 : l.length ≤ 5) (h : ∀ x ∈ l, Cell x ∨ Row x ∨ Tbl x) : ∃ r, L (k + 2) "_law_bent_within" [.tup l, .int n] ⟨[], S⟩ = .ok r ⟨[], S⟩ ∧ Soft 4 9090303 r := by
  rw [hB.within]
  unfold bodyF b__law_bent_within
  have tin : ∀ x ∈ l, Tiny 2 151503 x := fun x hx => by
    rcases h x hx with q | q | q
    · exact q.tiny.up (by omega) (by omega)
    · exact q.tiny.up (by omega) (by omega)
    · exact q.tiny
  obtain ⟨e, he, em⟩ := at_mod (i := n / 5) l0
  have lp : (0 : Int) < l.length := by omega
  have lne : l ≠ [] := List.ne_nil_of_length_pos l0
  have m1 : 0 ≤ n / 5 % (l.length : Int) := Int.emod_nonneg _ (by omega)
  have t1 := turned_ok hT k S hn (j := 1) (by omega) (by omega)
  have t2 := turned_ok hT k S hn (j := 2) (by omega) (by omega)
  obtain ⟨w, hw, sw⟩ := bent_ok hT hB k S (turnN_dr n 1) (l := l) (nn := 2) (B := 151503) (by omega) (by omega) (by omega) tin
  have s5 : sizeLine = 16777216 := sizeLine_eq
  generalize hA : n / 5 % (l.length : Int) = A at *
  have cl : ∀ a b, (cutD l a b).length ≤ 5 := fun a b => Nat.le_trans cut_len l5
  have z1 : ∀ a b, (cutD l a b).length + 1 ≤ 16777216 := fun a b => by have := cl a b; omega
  have z2 : ∀ a b c d, (cutD l a b).length + 1 + (cutD l c d).length ≤ 16777216 := fun a b c d => by have := cl a b; have := cl c d; omega
  have A1 : 0 ≤ A + 1 := by omega
  by_cases c : n / 7 % 4 = 0
  · exact ⟨w, by simp [lne, l0, lp, hA, c, t1, hw], sw.up (by omega) (by omega)⟩
  -- what the rest comes to
  have fin : ∀ r, Soft 3 151503 r → Soft 4 9090303 (.tup (cutD l none (some A) ++ [r] ++ cutD l (some (A + 1)) none)) := fun r hr =>
    soft_tup hr (by simp [cut_hi, cut_lo, m1, A1]; omega) fun y hy => by
      simp only [List.mem_append, List.mem_singleton] at hy
      rcases hy with (q | q) | q
      · exact .inl ((tin y (cut_mem q)).up (by omega) (by omega))
      · exact .inr q
      · exact .inl ((tin y (cut_mem q)).up (by omega) (by omega))
  have row : ∀ li : List D, e = .tup li → li.length ≤ 32 → (∀ x ∈ li, Cell x) → ∃ r, L (k + 1) "_law_bent" [.tup li, .int (turnN n 2)] ⟨[], S⟩ = .ok r ⟨[], S⟩ ∧ Soft 3 151503 r := fun li _ hl hc => by
    obtain ⟨r, h1, h2⟩ := bent_ok hT hB k S (turnN_dr n 2) (l := li) (nn := 1) (B := 2523) (by omega) (by omega) (by omega) (fun x hx => (hc x hx).tiny.up (by omega) (by omega))
    exact ⟨r, h1, h2.up (by omega) (by omega)⟩
  rcases h e em with q | q | q
  · obtain ⟨i, rfl, _⟩ := q
    exact ⟨w, by simp [lne, l0, lp, hA, c, t1, hw, he], sw.up (by omega) (by omega)⟩
  · obtain ⟨li, rfl, l32, hc⟩ := q
    have en := eq_nil ((show Row (.tup li) from ⟨li, rfl, l32, hc⟩).tiny.2 true) (by omega)
    obtain ⟨r, hr, sr⟩ := row li rfl l32 hc
    refine ⟨_, ?_, fin r sr⟩
    cases li with
    | nil => simp [lne, l0, lp, hA, c, he, en, t2, hr, s5, z1, z2]
    | cons x li =>
      obtain ⟨i, rfl, _⟩ := hc x (by simp)
      simp [lne, l0, lp, hA, c, he, en, t2, hr, s5, z1, z2, show ∀ (a : D) (b : List D), atI (a :: b) 0 = some a from fun a b => by simp [atI, ixN]]
  · obtain ⟨li, rfl, l4, hc⟩ := q
    have ht : Tbl (.tup li) := ⟨li, rfl, l4, hc⟩
    have en := eq_nil (ht.tiny.2 true) (by omega)
    cases li with
    | nil =>
      obtain ⟨r, hr, sr⟩ := row [] rfl (by simp) (by simp)
      exact ⟨_, by simp [lne, l0, lp, hA, c, he, en, t2, hr, s5, z1, z2], fin r sr⟩
    | cons x li =>
      obtain ⟨rx, erx, _⟩ := hc x (by simp)
      generalize hI : x :: li = L' at *
      have at0 : atI L' 0 = some (.tup rx) := by rw [← hI, erx]; simp [atI, ixN]
      have lp' : 0 < L'.length := by rw [← hI]; simp
      have lne2 : L' ≠ [] := List.ne_nil_of_length_pos lp'
      have lp2 : (0 : Int) < L'.length := by omega
      have lp3 : (L'.length : Int) < 1073741824 := by omega
      have ne : L'.isEmpty = false := by rw [← hI]; rfl
      obtain ⟨y, hy, ym⟩ := at_mod (i := n / 50) lp'
      obtain ⟨ly, rfl, ll, cy⟩ := hc y ym
      have P0 : 0 ≤ n / 50 % (L'.length : Int) := Int.emod_nonneg _ (by omega)
      obtain ⟨r, h1, h2⟩ := bent_ok hT hB k S (turnN_dr n 2) (l := ly) (nn := 1) (B := 40) (by omega) (by omega) (by omega) (fun x hx => (cy x hx).tiny.up (by omega) (by omega))
      generalize hP : n / 50 % (L'.length : Int) = P at *
      have cl' : ∀ a b, (cutD L' a b).length ≤ 5 := fun a b => Nat.le_trans cut_len (by omega)
      have z1' : ∀ a b, (cutD L' a b).length + 1 ≤ 16777216 := fun a b => by have := cl' a b; omega
      have z2' : ∀ a b c d, (cutD L' a b).length + 1 + (cutD L' c d).length ≤ 16777216 := fun a b c d => by have := cl' a b; have := cl' c d; omega
      have P1 : 0 ≤ P + 1 := by omega
      refine ⟨_, ?_, fin (.tup (cutD L' none (some P) ++ [r] ++ cutD L' (some (P + 1)) none)) (soft_tup (n := 2) (B := 2523) (o := r) h2 ?_ ?_)⟩
      · simp [lne, l0, lp, hA, c, he, en, t2, h1, s5, z1, z2, z1', z2', at0, ne, hP, lne2, lp2, lp', hy]
      · simp [cut_hi, cut_lo, P0, P1]; omega
      · intro z hz
        simp only [List.mem_append, List.mem_singleton] at hz
        rcases hz with (q | q) | q
        · exact .inl ((hc z (cut_mem q)).tiny.up (by omega) (by omega))
        · exact .inr q
        · exact .inl ((hc z (cut_mem q)).tiny.up (by omega) (by omega))
end
end LB

namespace LB
open PySem L2 PyProof.Rows
/-! ### loops whose turns leave nothing behind -/
theorem forL_same {α : Type} {g : α → D} {ks : List Nat} {t : Tg} {b : Mo Fl} {S : List SO} {ρ : List Sl} (B : α → List Sl) (hw : wipeR ks ρ = ρ) : ∀ {xs : List α}, (∀ x ∈ xs, bindT t (g x) ρ = some (B x)) → (∀ x ∈ xs, ∃ ρ', b ⟨B x, S⟩ = .ok .nx ⟨ρ', S⟩ ∧ wipeR ks ρ' = ρ) → forL ks t b (xs.map g) ⟨ρ, S⟩ = .ok .nx ⟨ρ, S⟩
  | [], _, _ => rfl
  | x :: xs, h1, h2 => by
    obtain ⟨ρ', e, w⟩ := h2 x List.mem_cons_self
    rw [List.map_cons, forL_step (m' := ⟨ρ', S⟩) (h1 x List.mem_cons_self) e]
    show forL ks t b (xs.map g) ⟨wipeR ks ρ', S⟩ = _
    rw [w]
    exact forL_same B hw (fun y hy => h1 y (List.mem_cons_of_mem _ hy)) fun y hy => h2 y (List.mem_cons_of_mem _ hy)
/-! ### truths -/
def truI : D → D
  | .int i => if i < 2 then .bl (decide (i = 1)) else .int i
  | d => d
def truN : Nat → D → D
  | 0, d => truI d
  | n + 1, .tup l => .tup (l.map (truN n))
  | _ + 1, d => truI d
def Dee : Nat → D → Prop
  | 0, d => Cell d
  | n + 1, d => Cell d ∨ ∃ l, d = .tup l ∧ l.length ≤ 60 ∧ ∀ x ∈ l, Dee n x
def BB : Nat → Nat
  | 0 => 40
  | n + 1 => 60 * BB n + 123
theorem BB_le : ∀ n, 40 ≤ BB n
  | 0 => Nat.le_refl _
  | n + 1 => by have := BB_le n; simp only [BB]; omega
theorem Cell.dee {d : D} (h : Cell d) : ∀ n, Dee n d
  | 0 => h
  | _ + 1 => .inl h
theorem Row.dee {d : D} (h : Row d) (n : Nat) : Dee (n + 1) d := by
  obtain ⟨l, rfl, h1, h2⟩ := h
  exact .inr ⟨l, rfl, by omega, fun x hx => (h2 x hx).dee n⟩
theorem Tbl.dee {d : D} (h : Tbl d) (n : Nat) : Dee (n + 2) d := by
  obtain ⟨l, rfl, h1, h2⟩ := h
  exact .inr ⟨l, rfl, by omega, fun x hx => (h2 x hx).dee n⟩
theorem Thing.dee {d : D} (h : Thing d) : Dee 3 d := by
  obtain ⟨l, rfl, h0, h1, h2⟩ := h
  refine .inr ⟨l, rfl, by omega, fun x hx => ?_⟩
  rcases h2 x hx with q | q | q
  · exact q.dee 2
  · exact q.dee 1
  · exact q.dee 0
theorem truI_tiny {d : D} (h : Cell d) : Tiny 0 40 (truI d) := by
  obtain ⟨i, rfl, h1, h2⟩ := h
  by_cases c : i < 2
  · simp only [truI, if_pos c]
    exact ⟨rfl, fun e => (tm_bl e (decide (i = 1))).up (Nat.le_refl _) (by omega)⟩
  · simp only [truI, if_neg c]
    exact Cell.tiny ⟨i, rfl, h1, h2⟩
theorem truN_tiny : ∀ (n : Nat) {d : D}, Dee n d → Tiny n (BB n) (truN n d)
  | 0, d, h => truI_tiny h
  | n + 1, d, h => by
    rcases h with h | ⟨l, rfl, hl, hx⟩
    · have := truI_tiny h
      obtain ⟨i, rfl, _⟩ := h
      exact this.up (by omega) (BB_le _)
    · exact tiny_tup (by simpa using hl) fun x hx' => by
        obtain ⟨y, hy, rfl⟩ := List.mem_map.mp hx'
        exact truN_tiny n (hx y hy)
theorem dee_tiny : ∀ (n : Nat) {d : D}, Dee n d → Tiny n (BB n) d
  | 0, d, h => Cell.tiny h
  | n + 1, d, h => by
    rcases h with h | ⟨l, rfl, hl, hx⟩
    · exact h.tiny.up (by omega) (BB_le _)
    · exact tiny_tup (by simpa using hl) fun x hx' => dee_tiny n (hx x hx')
theorem truths_ok {L : Nat → Str → Fn} (hB : LBent L) (k : Nat) (S : List SO) : ∀ (n : Nat) {d : D}, Dee n d → L (k + n + 1) "_law_truths" [d] ⟨[], S⟩ = .ok (truN n d) ⟨[], S⟩
  | n, d, h => by
    have cell : ∀ k, Cell d → L (k + 1) "_law_truths" [d] ⟨[], S⟩ = .ok (truI d) ⟨[], S⟩ := fun k h => by
      obtain ⟨i, rfl, h1, h2⟩ := h
      rw [hB.truths]
      unfold bodyF b__law_truths
      by_cases c : i < 2 <;> simp [truI, c]
    match n, h with
    | 0, h => exact cell _ h
    | n + 1, .inl h =>
      rw [cell _ h]
      obtain ⟨i, rfl, _⟩ := h
      rfl
    | n + 1, .inr ⟨l, e, hl, hx⟩ =>
      subst e
      rw [hB.truths]
      unfold bodyF b__law_truths
      have c : evN (L (k + (n + 1))) c1__law_truths ⟨[.va (.tup l), .un], S⟩ = .ok (.lst (l.map (truN n))) ⟨[.va (.tup l), .un], S⟩ := by
        unfold c1__law_truths
        refine lc_map (fun x => [.va (.tup l), .va x]) (by simp) rfl (by simp [Tg.slots]) (fun x _ => by simp) (fun x _ => by simp) (fun x hx' => ?_) (by rw [sizeLine_eq]; omega)
        have := truths_ok hB k S n (hx x hx')
        rw [show k + (n + 1) = k + n + 1 by omega]
        simp [this]
      simp [c, truN]
/-! ### the law -/
structure LK04 (L : Nat → Str → Fn) : Prop where
  told : ∀ k, L (k + 1) "_law_told" = bodyF 2 (evTs (L k) b__law_told)
  law : ∀ k, L (k + 1) "law" = bodyF 12 (evTs (L k) b_law_k04)
def dueB (i : Nat) (d : D) : Bool := match i with
  | 0 => isWorldB d
  | 1 => isHiddenB d
  | _ => isMakeB d
theorem soft_rep {n B : Nat} {d : D} (h : Soft n B d) (hn : n ≤ 64) (hB : B ≤ 16777216) : ∃ t, repD d = some t ∧ cmpD .eq (.str t) (.str t) = some true := by
  obtain ⟨c, q⟩ := h.2
  exact ⟨_, q.rep hn hB, q.str_same⟩
theorem mixN_dr (ns : List Int) (j : Int) : Dr (mixN ns j) := by
  unfold mixN
  exact ⟨Int.emod_nonneg _ (by decide), Int.lt_trans (Int.emod_lt_of_pos _ (by decide)) (by decide)⟩
theorem six_ok {x : Int} (h : 0 ≤ x) (h2 : x < 6) : ∃ o, atI [D.non, .int 5, .str "", .dct false [], .tup [], .bl true] x = some o ∧ Soft 1 40 o := by
  have lit : ∀ (c : Bool) (d : D), plB d = true → LB.cl c d = true → d.toP.depth ≤ 1 → d.toP.showable = true → d.toP.shown.length ≤ 40 → PyData.strOk d.toP.shown = true → Soft 1 40 d := fun c d h0 h1 h2 h3 h4 h5 => ⟨h0, c, h1, h2, h3, h4, h5⟩
  rcases (by omega : x = 0 ∨ x = 1 ∨ x = 2 ∨ x = 3 ∨ x = 4 ∨ x = 5) with rfl | rfl | rfl | rfl | rfl | rfl
  · exact ⟨_, rfl, lit true _ (by decide +kernel) (by decide +kernel) (by decide +kernel) (by decide +kernel) (by decide +kernel) (by decide +kernel)⟩
  · exact ⟨_, rfl, lit true _ (by decide +kernel) (by decide +kernel) (by decide +kernel) (by decide +kernel) (by decide +kernel) (by decide +kernel)⟩
  · exact ⟨_, rfl, lit true _ (by decide +kernel) (by decide +kernel) (by decide +kernel) (by decide +kernel) (by decide +kernel) (by decide +kernel)⟩
  · exact ⟨_, rfl, lit false _ (by decide +kernel) (by decide +kernel) (by decide +kernel) (by decide +kernel) (by decide +kernel) (by decide +kernel)⟩
  · exact ⟨_, rfl, lit true _ (by decide +kernel) (by decide +kernel) (by decide +kernel) (by decide +kernel) (by decide +kernel) (by decide +kernel)⟩
  · exact ⟨_, rfl, lit true _ (by decide +kernel) (by decide +kernel) (by decide +kernel) (by decide +kernel) (by decide +kernel) (by decide +kernel)⟩
theorem thing_soft {d : D} (h : Thing d) : Soft 4 9090303 d := (dee_tiny 3 h.dee).soft.up (by omega) (by decide)
section
variable {L : Nat → Str → Fn} (hT : LTurn L) (hG : LGenM L) (hB : LBent L) (hN : LNums L) (hW : LWorldsM L) (hL : LK04 L) (k : Nat) (S : List SO)
include hT hG hB hN hW hL
theorem told_ok {d : D} (h : plB d = true) {i : Nat} (hi : i < 3) : L (k + 5) "_law_told" [.int (i : Int), d] ⟨[], S⟩ = .ok (.bl (dueB i d)) ⟨[], S⟩ := by
  rw [hL.told]
  unfold bodyF b__law_told
  have a0 : ∀ a b c : D, atI [a, b, c] 0 = some a := fun _ _ _ => rfl
  have a1 : ∀ a b c : D, atI [a, b, c] 1 = some b := fun _ _ _ => rfl
  have a2 : ∀ a b c : D, atI [a, b, c] 2 = some c := fun _ _ _ => rfl
  match i, hi with
  | 0, _ => simp [a0, sizeLine_eq, is_world_ok hW.toLWorlds k S h, dueB]
  | 1, _ => simp [a1, sizeLine_eq, is_hidden_ok hW.toLWorlds (k + 1) S h, dueB]
  | 2, _ => simp [a2, sizeLine_eq, is_make_ok (k + 2) S hW h, dueB]
theorem turn_ok {s0 s1 s2 s3 s5 s6 s7 : Sl} {d : D} {i tn : Nat} (hi : i < 3) (h : Soft 4 9090303 d) {t : Str} (ht : repD d = some t) (hs : cmpD .eq (.str t) (.str t) = some true) :
    evTs (L (k + 5)) l1_law_k04 ⟨[s0, s1, s2, s3, .va (.int (i : Int)), s5, s6, s7, .va d, .va (.str t), .own (.lst [.bl (dueB 0 d), .bl (dueB 1 d), .bl (dueB 2 d)]), .va (.int (tn : Int))], S⟩ = .ok .nx ⟨[s0, s1, s2, s3, .va (.int (i : Int)), s5, s6, s7, .va d, .va (.str t), .own (.lst [.bl (dueB 0 d), .bl (dueB 1 d), .bl (dueB 2 d)]), .va (.int (tn : Int))], S⟩ := by
  unfold l1_law_k04
  have hold := told_ok hT hG hB hN hW hL k S h.1 hi
  have at_ : atI [D.bl (dueB 0 d), .bl (dueB 1 d), .bl (dueB 2 d)] (i : Int) = some (.bl (dueB i d)) := by
    match i, hi with
    | 0, _ => rfl
    | 1, _ => rfl
    | 2, _ => rfl
  have rb : ∀ b, ∃ t, repD (.bl b) = some t ∧ cmpD .eq (.str t) (.str t) = some true := fun b => ⟨_, (tm_bl true b).rep (by omega) (by omega), (tm_bl true b).str_same⟩
  obtain ⟨tb, hb1, hb2⟩ := rb (dueB i d)
  have lk : ∀ m : Mst, look m d = d := fun m => by
    have := h.1
    cases d <;> first | rfl | simp [plB] at this
  simp [hold, at_, hb1, hb2, ht, hs, lk]
theorem one_ok {s0 s1 s2 s3 s5 s6 s7 : Sl} {d : D} {i : Nat} (hi : i < 3) (h : Soft 4 9090303 d) :
    ∃ ρ', evTs (L (k + 5)) l2_law_k04 ⟨[s0, s1, s2, s3, .va (.int (i : Int)), s5, s6, s7, .va d, .un, .un, .un], S⟩ = .ok .nx ⟨ρ', S⟩ ∧ wipeR [8, 9, 10, 11] ρ' = [s0, s1, s2, s3, .va (.int (i : Int)), s5, s6, s7, .un, .un, .un, .un] := by
  obtain ⟨t, ht, hs⟩ := soft_rep h (by omega) (by omega)
  have lk : ∀ m : Mst, look m d = d := fun m => by
    have := h.1
    cases d <;> first | rfl | simp [plB] at this
  have s2' : small62 2 = true := by decide
  have w := law_world_ok hN (k + 3) S h.1
  have hh := law_hidden_ok hN (k + 3) S h.1
  have mm := law_make_ok hN (k + 3) S h.1
  have lp := forL_same (g := fun x : Nat => .int (x : Int)) (ks := [11]) (t := .nm 11) (b := evTs (L (k + 5)) l1_law_k04) (S := S) (ρ := [s0, s1, s2, s3, .va (.int (i : Int)), s5, s6, s7, .va d, .va (.str t), .own (.lst [.bl (dueB 0 d), .bl (dueB 1 d), .bl (dueB 2 d)]), .un]) (fun x => [s0, s1, s2, s3, .va (.int (i : Int)), s5, s6, s7, .va d, .va (.str t), .own (.lst [.bl (dueB 0 d), .bl (dueB 1 d), .bl (dueB 2 d)]), .va (.int (x : Int))]) rfl (xs := List.range 2) (fun x _ => rfl) (fun x _ => ⟨_, turn_ok hT hG hB hN hW hL k S hi h ht hs, rfl⟩)
  refine ⟨[s0, s1, s2, s3, .va (.int (i : Int)), s5, s6, s7, .va d, .va (.str t), .own (.lst [.bl (dueB 0 d), .bl (dueB 1 d), .bl (dueB 2 d)]), .un], ?_, rfl⟩
  unfold l2_law_k04
  simp only [dueB] at lp ⊢
  simp [ht, lk, w, hh, mm, sizeLine_eq, s2', lp]
theorem which_ok {s0 s1 : Sl} {n : Int} {g1 g2 g3 d : D} {i : Nat} (hi : i < 3) (hn : Dr n) (h1 : Thing g1) (h2 : Thing g2) (h3 : Thing g3) (h : Thing d) :
    ∃ ρ', evTs (L (k + 5)) l3_law_k04 ⟨[s0, s1, .va (.int n), .va (.lst [g1, g2, g3]), .va (.int (i : Int)), .va d, .un, .un, .un, .un, .un, .un], S⟩ = .ok .nx ⟨ρ', S⟩ ∧ wipeR [4, 5, 6, 7, 8, 9, 10, 11] ρ' = [s0, s1, .va (.int n), .va (.lst [g1, g2, g3]), .un, .un, .un, .un, .un, .un, .un, .un] := by
  have dr := turnN_dr n (3 + (i : Int))
  have t1 := turned_ok hT (k + 4) S hn (j := 3 + (i : Int)) (by omega) (by omega)
  generalize turnN n (3 + (i : Int)) = mo at *
  have tr := truths_ok hB (k + 1) S 3 h.dee
  have ts := (truN_tiny 3 h.dee).soft.up (n' := 4) (B' := 9090303) (by omega) (by decide)
  obtain ⟨l, hd, l0, l5, hx⟩ := h
  obtain ⟨r1, w1, sr1⟩ := within_ok hT hB (k + 3) S dr l0 l5 hx
  obtain ⟨r2, w2, sr2⟩ := within_ok hT hB (k + 3) S (dr.div (j := 3) (by omega)) l0 l5 hx
  obtain ⟨o, ho, so⟩ := six_ok (x := mo / 9 % 6) (by omega) (by omega)
  have sl : Soft 4 9090303 (.lst l) := (tiny_lst (n := 2) (B := 151503) (by omega) fun x q => by
    rcases hx x q with q | q | q
    · exact q.tiny.up (by omega) (by omega)
    · exact q.tiny.up (by omega) (by omega)
    · exact q.tiny).up (by omega) (by omega)
  have sd : Soft 4 9090303 (.tup l) := thing_soft ⟨l, rfl, l0, l5, hx⟩
  have all : ∀ x ∈ [.tup l, truN 3 (.tup l), r1, r2, .lst l, o, g1, g2, g3], Soft 4 9090303 x := by
    intro x hx
    simp only [List.mem_cons, List.not_mem_nil, or_false] at hx
    rcases hx with rfl | rfl | rfl | rfl | rfl | rfl | rfl | rfl | rfl
    · exact sd
    · exact hd ▸ ts
    · exact sr1
    · exact sr2
    · exact sl
    · exact so.up (by omega) (by omega)
    · exact thing_soft h1
    · exact thing_soft h2
    · exact thing_soft h3
  subst hd
  generalize hq : truN 3 (.tup l) = q3 at *
  have lp := forL_same (g := fun x : D => x) (ks := [8, 9, 10, 11]) (t := .nm 8) (b := evTs (L (k + 5)) l2_law_k04) (S := S) (ρ := [s0, s1, .va (.int n), .va (.lst [g1, g2, g3]), .va (.int (i : Int)), .va (.tup l), .va (.int mo), .va (.lst [.tup l, q3, r1, r2, .lst l, o, g1, g2, g3]), .un, .un, .un, .un]) (fun x => [s0, s1, .va (.int n), .va (.lst [g1, g2, g3]), .va (.int (i : Int)), .va (.tup l), .va (.int mo), .va (.lst [.tup l, q3, r1, r2, .lst l, o, g1, g2, g3]), .va x, .un, .un, .un]) rfl (xs := [.tup l, q3, r1, r2, .lst l, o, g1, g2, g3]) (fun x _ => rfl) (fun x hx => one_ok hT hG hB hN hW hL k S hi (all x hx))
  rw [List.map_id'] at lp
  refine ⟨[s0, s1, .va (.int n), .va (.lst [g1, g2, g3]), .va (.int (i : Int)), .va (.tup l), .va (.int mo), .va (.lst [.tup l, q3, r1, r2, .lst l, o, g1, g2, g3]), .un, .un, .un, .un], ?_, rfl⟩
  unfold l3_law_k04
  simp [t1, tr, w1, w2, ho, sizeLine_eq, lp]
theorem number_ok {ns : List Int} (hl : ns.length ≤ 63) {j : Nat} (hj : j < 1000) : ∃ ρ', evTs (L (k + 5)) l4_law_k04 ⟨[.va (.lst (ns.map .int)), .va (.int (j : Int)), .un, .un, .un, .un, .un, .un, .un, .un, .un, .un], S⟩ = .ok .nx ⟨ρ', S⟩ ∧ wipeR [1, 2, 3, 4, 5, 6, 7, 8, 9, 10, 11] ρ' = [.va (.lst (ns.map .int)), .un, .un, .un, .un, .un, .un, .un, .un, .un, .un, .un] := by
  have dr := mixN_dr ns (j : Int)
  have mx := mixed_ok hT (k + 4) S hl (j := (j : Int)) (by omega) (by omega)
  generalize mixN ns (j : Int) = n at *
  have t1 := turned_ok hT (k + 4) S dr (j := 1) (by omega) (by omega)
  have t2 := turned_ok hT (k + 4) S dr (j := 2) (by omega) (by omega)
  have gw := world_ok hT hG.toLGen (k + 3) S dr
  obtain ⟨g2, hg, th⟩ := hidden_ok hT hG.toLGen (k + 3) S (turnN_dr n 1)
  obtain ⟨g3, hm, tm⟩ := make_ok hT (k + 3) S hG (turnN_dr n 2)
  have tw := worldN_thing n
  generalize worldN n = g1 at *
  have all : ∀ p ∈ [(0, g1), (1, g2), (2, g3)], Thing p.2 ∧ p.1 < 3 := by
    intro p hp
    simp only [List.mem_cons, List.not_mem_nil, or_false] at hp
    rcases hp with rfl | rfl | rfl
    · exact ⟨tw, by simp⟩
    · exact ⟨th, by simp⟩
    · exact ⟨tm, by simp⟩
  have lp := forL_same (g := fun p : Nat × D => .tup [.int (p.1 : Int), p.2]) (ks := [4, 5, 6, 7, 8, 9, 10, 11]) (t := .tp (.cons (.nm 4) (.cons (.nm 5) .nil))) (b := evTs (L (k + 5)) l3_law_k04) (S := S) (ρ := [.va (.lst (ns.map .int)), .va (.int (j : Int)), .va (.int n), .va (.lst [g1, g2, g3]), .un, .un, .un, .un, .un, .un, .un, .un]) (fun p => [.va (.lst (ns.map .int)), .va (.int (j : Int)), .va (.int n), .va (.lst [g1, g2, g3]), .va (.int (p.1 : Int)), .va p.2, .un, .un, .un, .un, .un, .un]) rfl (xs := [(0, g1), (1, g2), (2, g3)]) (fun x _ => rfl) (fun x hx => which_ok hT hG hB hN hW hL k S (all x hx).2 dr tw th tm (all x hx).1)
  refine ⟨[.va (.lst (ns.map .int)), .va (.int (j : Int)), .va (.int n), .va (.lst [g1, g2, g3]), .un, .un, .un, .un, .un, .un, .un, .un], ?_, rfl⟩
  unfold l4_law_k04
  simp at lp
  simp [mx, t1, t2, gw, hg, hm, sizeLine_eq, enumF, lp]
theorem law_ok {ns : List Int} (hl : ns.length ≤ 63) : L (k + 6) "law" [.lst (ns.map .int)] ⟨[], S⟩ = .ok (.bl true) ⟨[], S⟩ := by
  rw [hL.law]
  unfold bodyF b_law_k04
  generalize hM : (if (ns.length : Int) < 10 then (ns.length : Int) else 10) = M
  have M1 : 0 ≤ M := by rw [← hM]; split <;> omega
  have M2 : M ≤ 10 := by rw [← hM]; split <;> omega
  have sm : small62 (1 + M) = true := by
    unfold small62
    simp
    omega
  have lp := forL_same (g := fun x : Nat => .int (x : Int)) (ks := [1, 2, 3, 4, 5, 6, 7, 8, 9, 10, 11]) (t := .nm 1) (b := evTs (L (k + 5)) l4_law_k04) (S := S) (ρ := [.va (.lst (ns.map .int)), .un, .un, .un, .un, .un, .un, .un, .un, .un, .un, .un]) (fun x => [.va (.lst (ns.map .int)), .va (.int (x : Int)), .un, .un, .un, .un, .un, .un, .un, .un, .un, .un]) rfl (xs := List.range (1 + M).toNat) (fun x _ => rfl) (fun x hx => number_ok hT hG hB hN hW hL k S hl (by have := List.mem_range.mp hx; omega))
  simp [hM, sm, lp]
end
end LB

namespace LB
open PySem L2 PyProof.Rows
/-! ### worlds and hidden ones, as they are -/
def rD (l : List Int) : D := .tup (l.map .int)
def hD (hb ht : List Int) : D := .tup [rD hb, rD ht]
def wD (bs : List Int) (ts : List (List Int)) : D := .tup [rD bs, .tup (ts.map rD)]
structure HOk (hb ht : List Int) : Prop where
  b : ∀ x ∈ hb, 0 ≤ x ∧ x ≤ 31
  t : ∀ x ∈ ht, 0 ≤ x ∧ x ≤ 3
  bp : hb.Pairwise (· < ·)
  tp : ht.Pairwise (· < ·)
  bl : hb.length ≤ 32
  tl : ht.length ≤ 4
structure WOk (bs : List Int) (ts : List (List Int)) : Prop where
  n : bs.length = 32
  b : ∀ x ∈ bs, 0 ≤ x ∧ x ≤ 15
  m : ts.length = 4
  l : ∀ r ∈ ts, r.length = 16
  t : ∀ r ∈ ts, ∀ x ∈ r, 0 ≤ x ∧ x ≤ 15
theorem amongs_map {lo hi : Int} {l : List Int} (h : ∀ x ∈ l, lo ≤ x ∧ x ≤ hi) : (l.map D.int).all (amongB lo hi) = true := by
  rw [List.all_map, List.all_eq_true]
  intro x hx
  simp [amongB, h x hx]
theorem HOk.is {hb ht : List Int} (h : HOk hb ht) : isHiddenB (hD hb ht) = true := by
  have a1 : (hb.map D.int).all (amongB 0 (32 - 1)) = true := amongs_map fun x hx => by have := h.b x hx; omega
  have a2 : (ht.map D.int).all (amongB 0 (4 - 1)) = true := amongs_map fun x hx => by have := h.t x hx; omega
  simp only [hD, rD, isHiddenB, risingB, numsOf_map, a1, a2, ascB_iff.mpr h.bp, ascB_iff.mpr h.tp, Bool.and_self]
theorem areWords_ok {n : Nat} {l : List Int} (h : l.length = n) (k : ∀ x ∈ l, 0 ≤ x ∧ x ≤ 15) : areWordsB (n : Int) (rD l) = true := by
  simp only [rD, areWordsB, amongs_map k, List.length_map, h, decide_true, Bool.and_self]
theorem WOk.is {bs : List Int} {ts : List (List Int)} (h : WOk bs ts) : isWorldB (wD bs ts) = true := by
  have h1 := areWords_ok (n := 32) h.n h.b
  have h2 : (ts.map rD).all (areWordsB 16) = true := by
    rw [List.all_map, List.all_eq_true]
    intro r hr
    exact areWords_ok (n := 16) (h.l r hr) (h.t r hr)
  show (areWordsB 32 (rD bs) && (decide (((ts.map rD).length : Int) = 4) && (ts.map rD).all (areWordsB 16))) = true
  rw [show (32 : Int) = ((32 : Nat) : Int) from rfl, h1, h2, List.length_map, h.m]
  rfl
theorem pl_row {l : List Int} (h : l.length ≤ 60) : plB (rD l) = true := pl_tup.mpr ⟨by simpa using h, fun d hd => by
  obtain ⟨i, _, rfl⟩ := List.mem_map.mp hd
  rfl⟩
theorem HOk.pl {hb ht : List Int} (h : HOk hb ht) : plB (hD hb ht) = true := pl_tup.mpr ⟨by simp, fun d hd => by
  simp only [List.mem_cons, List.not_mem_nil, or_false] at hd
  have := h.bl
  have := h.tl
  rcases hd with rfl | rfl <;> exact pl_row (by omega)⟩
theorem WOk.pl {bs : List Int} {ts : List (List Int)} (h : WOk bs ts) : plB (wD bs ts) = true := pl_tup.mpr ⟨by simp, fun d hd => by
  simp only [List.mem_cons, List.not_mem_nil, or_false] at hd
  have := h.n
  rcases hd with rfl | rfl
  · exact pl_row (by omega)
  · refine pl_tup.mpr ⟨by have := h.m; simp; omega, fun d hd => ?_⟩
    obtain ⟨r, hr, rfl⟩ := List.mem_map.mp hd
    exact pl_row (by have := h.l r hr; omega)⟩
theorem inInts (i : Int) : ∀ l : List Int, (D.toPs (l.map .int)).any (fun z => PyData.eqv z (D.toP (.int i))) = l.contains i
  | [] => rfl
  | a :: l => by
    simp only [List.map_cons, D.toPs, List.any_cons, inInts i l, List.contains_cons]
    congr 1
    simp only [D.toP, PyData.eqv]
    show (a == i) = (i == a)
    rw [Bool.beq_comm]
@[simp] theorem z_ini (i : Int) (l : List Int) : cmpD .isin (.int i) (.tup (l.map .int)) = some (l.contains i) := by
  rw [z_in]
  simp only [inD, shaped_int, (ints_lay l).1, Bool.and_self, if_true, inInts]
@[simp] theorem z_notin (i : Int) (l : List Int) : cmpD .notin (.int i) (.tup (l.map .int)) = some (!l.contains i) := by
  have h : cmpD .notin (.int i) (.tup (l.map .int)) = (inD (.int i) (.tup (l.map .int))).map not := rfl
  rw [h, ← z_in, z_ini]
  rfl
theorem enumF_range (l : List D) (k : Nat) : enumF k l = (List.range l.length).map fun i => .tup [.int ((k + i : Nat) : Int), l.getD i .non] := by
  induction l generalizing k with
  | nil => rfl
  | cons a l ih =>
    rw [enumF, ih, List.length_cons, List.range_succ_eq_map, List.map_cons, List.map_map]
    simp only [List.getD_cons_zero, Nat.add_zero]
    congr 1
    refine List.map_congr_left fun i _ => ?_
    simp only [Function.comp_apply, List.getD_cons_succ]
    rw [show k + 1 + i = k + i.succ by omega]
theorem atI_nat {l : List D} {i : Nat} (h : i < l.length) : atI l (i : Int) = some (l.getD i .non) := by
  unfold atI ixN
  rw [if_pos (by omega), if_pos (by simpa using h)]
  simp [List.getD_eq_getElem?_getD, h]
@[simp] theorem atI_ints {l : List Int} {i : Nat} (h : i < l.length) : atI (l.map D.int) (i : Int) = some (.int (l.getD i 0)) := by
  rw [atI_nat (by simpa using h)]
  simp [List.getD_eq_getElem?_getD, h]
@[simp] theorem atI_rows {l : List (List Int)} {i : Nat} (h : i < l.length) : atI (l.map rD) (i : Int) = some (rD (l.getD i [])) := by
  rw [atI_nat (by simpa using h)]
  simp [List.getD_eq_getElem?_getD, h]
theorem ints_getD {l : List Int} {i : Nat} (h : i < l.length) : (l.map D.int).getD i .non = .int (l.getD i 0) := by
  simp [List.getD_eq_getElem?_getD, h]
theorem rows_getD {l : List (List Int)} {i : Nat} (h : i < l.length) : (l.map rD).getD i .non = rD (l.getD i []) := by
  simp [List.getD_eq_getElem?_getD, h]
@[simp] theorem z_eqr (a b : List Int) : cmpD .eq (rD a) (rD b) = some (decide (a = b)) := z_eqt a b
@[simp] theorem look_rD (m : Mst) (l : List Int) : look m (rD l) = rD l := rfl
@[simp] theorem look_wD (m : Mst) (b : List Int) (t : List (List Int)) : look m (wD b t) = wD b t := rfl
@[simp] theorem look_hD (m : Mst) (b : List Int) (t : List Int) : look m (hD b t) = hD b t := rfl
@[simp] theorem ix_w0 (b : List Int) (t : List (List Int)) : ixD (wD b t) (.int 0) = some (rD b) := rfl
@[simp] theorem ix_w1 (b : List Int) (t : List (List Int)) : ixD (wD b t) (.int 1) = some (.tup (t.map rD)) := rfl
@[simp] theorem ix_h0 (b : List Int) (t : List Int) : ixD (hD b t) (.int 0) = some (rD b) := rfl
@[simp] theorem ix_h1 (b : List Int) (t : List Int) : ixD (hD b t) (.int 1) = some (rD t) := rfl
section
variable (l : List Int) (m : Mst)
theorem rD_list : listN (rD l) m = .ok (.lst (l.map .int)) m := rfl
theorem rD_len : lenD (rD l) = some l.length := by simp [rD]
theorem rD_items : itemsD (rD l) = some (l.map .int) := rfl
theorem rD_ix (i : Int) : ixD (rD l) (.int i) = atI (l.map .int) i := rfl
theorem rD_en : enD [rD l] = some (enumF 0 (l.map .int)) := rfl
theorem rD_rev : revMN (rD l) m = .ok (rD l.reverse) m := by simp [rD]
theorem rD_sl (a b : Option Int) : slMN (rD l) a b m = .ok (.tup (cutD (l.map .int) a b)) m := rfl
theorem rD_tup : bi1D .tuple (rD l) = some (rD l) := rfl
theorem rD_in (i : Int) : cmpD .isin (.int i) (rD l) = some (l.contains i) := z_ini i l
theorem rD_notin (i : Int) : cmpD .notin (.int i) (rD l) = some (!l.contains i) := z_notin i l
end
/-! ### drawn worlds and hidden ones -/
def rowI (n a m : Int) (c : Nat) : List Int := (List.range c).map fun (k : Nat) => turnN n (a + (k : Int)) / 7 % m
theorem worldN_wD (n : Int) : ∃ bs ts, worldN n = wD bs ts ∧ WOk bs ts := by
  refine ⟨rowI n 0 16 32, (List.range 4).map fun (t : Nat) => rowI n (40 + 16 * (t : Int)) 16 16, ?_, ?_⟩
  · simp [worldN, wD, rD, rowN, rowI, Function.comp_def]
  · have q : ∀ (a : Int) (c : Nat), ∀ x ∈ rowI n a 16 c, 0 ≤ x ∧ x ≤ 15 := fun a c x hx => by
      obtain ⟨k, _, rfl⟩ := List.mem_map.mp hx
      omega
    refine ⟨by simp [rowI], q _ _, by simp, fun r hr => ?_, fun r hr => ?_⟩
    · obtain ⟨t, _, rfl⟩ := List.mem_map.mp hr
      simp [rowI]
    · obtain ⟨t, _, rfl⟩ := List.mem_map.mp hr
      exact q _ _
theorem range_asc (n : Nat) (p : Nat → Bool) : ((((List.range n).filter p).map fun (x : Nat) => (x : Int)) : List Int).Pairwise (· < ·) := by
  rw [List.pairwise_map]
  exact (List.Pairwise.filter p (List.pairwise_lt_range (n := n))).imp fun h => by omega
theorem hidden_hD {L : Nat → Str → Fn} (hT : LTurn L) (hG : LGen L) (k : Nat) (S : List SO) {n : Int} (hn : Dr n) : ∃ hb ht, L (k + 2) "_law_hidden" [.int n] ⟨[], S⟩ = .ok (hD hb ht) ⟨[], S⟩ ∧ HOk hb ht := by
  have s32 : small62 32 = true := by decide
  have s4 : small62 4 = true := by decide
  obtain ⟨r, hr, r0, r1⟩ : ∃ r : Int, atI [D.int 1, .int 2, .int 3, .int 16] (n / 3 % 4) = some (.int r) ∧ 0 < r ∧ r < 1073741824 := by
    rcases (by omega : n / 3 % 4 = 0 ∨ n / 3 % 4 = 1 ∨ n / 3 % 4 = 2 ∨ n / 3 % 4 = 3) with e | e | e | e <;> rw [e]
    · exact ⟨1, rfl, by decide, by decide⟩
    · exact ⟨2, rfl, by decide, by decide⟩
    · exact ⟨3, rfl, by decide, by decide⟩
    · exact ⟨16, rfl, by decide, by decide⟩
  have c1 : evN (L (k + 1)) c1__law_hidden ⟨[.va (.int n), .va (.int r), .un, .un, .un], S⟩ = .ok (.lst (((List.range 32).filter fun (x : Nat) => decide (turnN n (2 + (x : Int)) / 5 % r = 0)).map fun (x : Nat) => .int (x : Int))) ⟨[.va (.int n), .va (.int r), .un, .un, .un], S⟩ := by
    unfold c1__law_hidden
    refine lc_okI (g := fun x : Nat => .int (x : Int)) (fun (x : Nat) => [.va (.int n), .va (.int r), .un, .va (.int (x : Int)), .un]) (by simp [s32]) rfl (by simp [Tg.slots]) (fun x _ => by simp) (fun x _ => by simp) (fun x hx => ?_) (fun x hx _ => by simp) (by rw [sizeLine_eq]; simp)
    have lt := List.mem_range.mp hx
    simp [turned_ok hT k S hn (j := 2 + (x : Int)) (by omega) (by omega), r0]
  have c2 : ∀ b : D, evN (L (k + 1)) c2__law_hidden ⟨[.va (.int n), .va (.int r), .va b, .un, .un], S⟩ = .ok (.lst (((List.range 4).filter fun (x : Nat) => decide (turnN n (40 + (x : Int)) / 5 % 2 = 0)).map fun (x : Nat) => .int (x : Int))) ⟨[.va (.int n), .va (.int r), .va b, .un, .un], S⟩ := by
    intro b
    unfold c2__law_hidden
    refine lc_okI (g := fun x : Nat => .int (x : Int)) (fun (x : Nat) => [.va (.int n), .va (.int r), .va b, .un, .va (.int (x : Int))]) (by simp [s4]) rfl (by simp [Tg.slots]) (fun x _ => by simp) (fun x _ => by simp) (fun x hx => ?_) (fun x hx _ => by simp) (by rw [sizeLine_eq]; simp)
    have lt := List.mem_range.mp hx
    simp [turned_ok hT k S hn (j := 40 + (x : Int)) (by omega) (by omega)]
  refine ⟨((List.range 32).filter fun (x : Nat) => decide (turnN n (2 + (x : Int)) / 5 % r = 0)).map fun (x : Nat) => (x : Int), ((List.range 4).filter fun (x : Nat) => decide (turnN n (40 + (x : Int)) / 5 % 2 = 0)).map fun (x : Nat) => (x : Int), ?_, ?_⟩
  · rw [hG.hidden]
    unfold bodyF b__law_hidden
    simp [c1, c2, sizeLine_eq, hr, hD, rD, Function.comp_def]
  · have q : ∀ (c : Nat) (p : Nat → Bool), ∀ x ∈ ((List.range c).filter p).map (fun (x : Nat) => (x : Int)), 0 ≤ x ∧ x ≤ (c : Int) - 1 := fun c p x hx => by
      obtain ⟨i, hi, rfl⟩ := List.mem_map.mp hx
      have := List.mem_range.mp (List.mem_filter.mp hi).1
      omega
    have ln : ∀ (c : Nat) (p : Nat → Bool), (((List.range c).filter p).map (fun (x : Nat) => (x : Int))).length ≤ c := fun c p => by
      rw [List.length_map]
      exact Nat.le_trans (List.length_filter_le _ _) (by simp)
    exact ⟨fun x hx => q 32 _ x hx, fun x hx => q 4 _ x hx, range_asc _ _, range_asc _ _, ln _ _, ln _ _⟩
/-! ### what the program refuses -/
structure LNeed (L : Nat → Str → Fn) : Prop where
  nh : ∀ k, L (k + 1) "need_hidden" = bodyF 1 (evTs (L k) b_need_hidden)
  nw : ∀ k, L (k + 1) "need_world" = bodyF 1 (evTs (L k) b_need_world)
structure LDiff (L : Nat → Str → Fn) : Prop where
  dw : ∀ k, L (k + 1) "differ_within" = bodyF 6 (evTs (L k) b_differ_within)
  wo : ∀ k, L (k + 1) "worlds_of" = bodyF 7 (evTs (L k) b_worlds_of_v1)
section
variable {L : Nat → Str → Fn} (hW : LWorlds L) (hN : LNeed L) (k : Nat) (S : List SO)
include hW hN
theorem need_hidden_ok {d : D} (h : plB d = true) : L (k + 4) "need_hidden" [d] ⟨[], S⟩ = if isHiddenB d = true then .ok .non ⟨[], S⟩ else .exc ⟨"BadHidden", []⟩ ⟨[], S⟩ := by
  rw [hN.nh]
  unfold bodyF b_need_hidden
  have w := is_hidden_ok hW k S h
  cases e : isHiddenB d <;> simp [w, e]
theorem need_world_ok {d : D} (h : plB d = true) : L (k + 5) "need_world" [d] ⟨[], S⟩ = if isWorldB d = true then .ok .non ⟨[], S⟩ else .exc ⟨"BadWorld", []⟩ ⟨[], S⟩ := by
  rw [hN.nw]
  unfold bodyF b_need_world
  have w := is_world_ok hW k S h
  cases e : isWorldB d <;> simp [w, e]
end
end LB

namespace LB
open PySem L2 PyProof.Rows
/-! ### whether two worlds differ within what is hidden -/
def okB (hb : List Int) (a b : List Int) (i : Nat) : Bool := hb.contains (i : Int) || decide (a.getD i 0 = b.getD i 0)
def okT (ht : List Int) (a b : List (List Int)) (i : Nat) : Bool := ht.contains (i : Int) || decide (a.getD i [] = b.getD i [])
def difB (hb ht bs : List Int) (ts : List (List Int)) (bs' : List Int) (ts' : List (List Int)) : Bool := (List.range 32).all (okB hb bs bs') && (List.range 4).all (okT ht ts ts')
section
variable {L : Nat → Str → Fn} (hW : LWorlds L) (hN : LNeed L) (hD' : LDiff L) (k : Nat) (S : List SO)
include hW hN hD'
theorem differ_good {hb ht bs bs' : List Int} {ts ts' : List (List Int)} (hh : HOk hb ht) (h1 : WOk bs ts) (h2 : WOk bs' ts') : L (k + 6) "differ_within" [hD hb ht, wD bs ts, wD bs' ts'] ⟨[], S⟩ = .ok (.bl (difB hb ht bs ts bs' ts')) ⟨[], S⟩ := by
  rw [hD'.dw]
  unfold bodyF b_differ_within
  have n1 := need_hidden_ok hW hN (k + 1) S hh.pl
  have n2 := need_world_ok hW hN k S h1.pl
  have n3 := need_world_ok hW hN k S h2.pl
  rw [if_pos hh.is] at n1
  rw [if_pos h1.is] at n2
  rw [if_pos h2.is] at n3
  have s2 : small62 2 = true := by decide
  have e1 : enumF 0 (bs.map D.int) = (List.range 32).map fun (i : Nat) => .tup [.int (i : Int), .int (bs.getD i 0)] := by
    rw [enumF_range, List.length_map, h1.n]
    refine List.map_congr_left fun i hi => ?_
    rw [ints_getD (by have := List.mem_range.mp hi; have := h1.n; omega), Nat.zero_add]
  have e2 : enumF 0 (ts.map rD) = (List.range 4).map fun (i : Nat) => .tup [.int (i : Int), rD (ts.getD i [])] := by
    rw [enumF_range, List.length_map, h1.m]
    refine List.map_congr_left fun i hi => ?_
    rw [rows_getD (by have := List.mem_range.mp hi; have := h1.m; omega), Nat.zero_add]
  have i1 := forL_all (g := fun (i : Nat) => .tup [.int (i : Int), .int (bs.getD i 0)]) (ks := [4, 5]) (t := .tp (.cons (.nm 4) (.cons (.nm 5) .nil))) (b := evTs (L (k + 5)) l1_differ_within) (S := S) (ρ := [.va (hD hb ht), .va (wD bs ts), .va (wD bs' ts'), .va (.int ((0 : Nat) : Int)), .un, .un]) (okB hb bs bs') (.bl false) (xs := List.range 32) fun i hi => by
    have lt := List.mem_range.mp hi
    have a1 : atI (bs'.map D.int) (i : Int) = some (.int (bs'.getD i 0)) := atI_ints (by have := h2.n; omega)
    refine ⟨[.va (hD hb ht), .va (wD bs ts), .va (wD bs' ts'), .va (.int ((0 : Nat) : Int)), .va (.int (i : Int)), .va (.int (bs.getD i 0))], rfl, fun hp => ?_, fun hp => ?_⟩ <;> unfold l1_differ_within <;> unfold okB at hp
    · by_cases c : hb.contains (i : Int) = true <;> simp at c <;> simp [c] at hp <;> simp [rD, a1, c, hp]
    · by_cases c : hb.contains (i : Int) = true <;> simp at c <;> simp [c] at hp <;> simp [rD, a1, c, hp]
  have i2 := forL_all (g := fun (i : Nat) => .tup [.int (i : Int), rD (ts.getD i [])]) (ks := [4, 5]) (t := .tp (.cons (.nm 4) (.cons (.nm 5) .nil))) (b := evTs (L (k + 5)) l1_differ_within) (S := S) (ρ := [.va (hD hb ht), .va (wD bs ts), .va (wD bs' ts'), .va (.int ((1 : Nat) : Int)), .un, .un]) (okT ht ts ts') (.bl false) (xs := List.range 4) fun i hi => by
    have lt := List.mem_range.mp hi
    have a1 : atI (ts'.map rD) (i : Int) = some (rD (ts'.getD i [])) := atI_rows (by have := h2.m; omega)
    have z : ∀ l : List Int, cmpD .notin (.int (i : Int)) (rD l) = some (!l.contains (i : Int)) := fun l => z_notin _ l
    refine ⟨[.va (hD hb ht), .va (wD bs ts), .va (wD bs' ts'), .va (.int ((1 : Nat) : Int)), .va (.int (i : Int)), .va (rD (ts.getD i []))], rfl, fun hp => ?_, fun hp => ?_⟩ <;> unfold l1_differ_within <;> unfold okT at hp
    · by_cases c : ht.contains (i : Int) = true <;> simp at c <;> simp [c] at hp <;> simp [a1, c, hp, z]
    · by_cases c : ht.contains (i : Int) = true <;> simp at c <;> simp [c] at hp <;> simp [a1, c, hp, z]
  rw [← e1] at i1
  rw [← e2] at i2
  have o := forL_all (g := fun (j : Nat) => .int (j : Int)) (ks := [3, 4, 5]) (t := .nm 3) (b := evTs (L (k + 5)) l2_differ_within) (S := S) (ρ := [.va (hD hb ht), .va (wD bs ts), .va (wD bs' ts'), .un, .un, .un]) (fun j => if j = 0 then (List.range 32).all (okB hb bs bs') else (List.range 4).all (okT ht ts ts')) (.bl false) (xs := [0, 1]) fun j hj => by
    refine ⟨[.va (hD hb ht), .va (wD bs ts), .va (wD bs' ts'), .va (.int (j : Int)), .un, .un], rfl, fun hp => ?_, fun hp => ?_⟩ <;> unfold l2_differ_within <;> simp only [List.mem_cons, List.not_mem_nil, or_false] at hj <;> rcases hj with rfl | rfl
    · simp only [if_true] at hp
      have q := i1.1 hp
      simp only [Int.natCast_zero] at q ⊢
      simp [q, rD]
    · simp only [Nat.one_ne_zero, if_false] at hp
      have q := i2.1 hp
      simp only [Int.natCast_one] at q ⊢
      simp [q]
    · simp only [if_true] at hp
      obtain ⟨ρ2, q⟩ := i1.2 hp
      simp only [Int.natCast_zero] at q ⊢
      exact ⟨ρ2, by simp [q, rD]⟩
    · simp only [Nat.one_ne_zero, if_false] at hp
      obtain ⟨ρ2, q⟩ := i2.2 hp
      simp only [Int.natCast_one] at q ⊢
      exact ⟨ρ2, by simp [q]⟩
  have r2 : (List.range (2 : Int).toNat).map (fun (j : Nat) => D.int (j : Int)) = [0, 1].map fun (j : Nat) => D.int (j : Int) := rfl
  have al : [0, 1].all (fun j => if j = 0 then (List.range 32).all (okB hb bs bs') else (List.range 4).all (okT ht ts ts')) = difB hb ht bs ts bs' ts' := by
    simp only [List.all_cons, List.all_nil, if_true, Nat.one_ne_zero, if_false, Bool.and_true, difB]
  rw [al] at o
  cases e : difB hb ht bs ts bs' ts' with
  | true =>
    have q := o.1 e
    simp only [← r2] at q
    simp [n1, n2, n3, s2] at q ⊢
    simp [q]
  | false =>
    obtain ⟨ρ2, q⟩ := o.2 e
    simp only [← r2] at q
    simp [n1, n2, n3, s2] at q ⊢
    simp [q]
theorem differ_bad {d1 d2 d3 : D} (p1 : plB d1 = true) (p2 : plB d2 = true) (p3 : plB d3 = true) (h : (isHiddenB d1 && (isWorldB d2 && isWorldB d3)) = false) : L (k + 6) "differ_within" [d1, d2, d3] ⟨[], S⟩ = .exc ⟨if isHiddenB d1 = true then "BadWorld" else "BadHidden", []⟩ ⟨[], S⟩ := by
  rw [hD'.dw]
  unfold bodyF b_differ_within
  have n1 := need_hidden_ok hW hN (k + 1) S p1
  have n2 := need_world_ok hW hN k S p2
  have n3 := need_world_ok hW hN k S p3
  cases e1 : isHiddenB d1 <;> cases e2 : isWorldB d2 <;> cases e3 : isWorldB d3 <;> simp [e1, e2, e3] at h n1 n2 n3 <;> simp [n1, n2, n3]
end
end LB

namespace LB
open PySem L2 PyProof.Rows
def seen : Res Fl → Option (D × List SO)
  | .ok (.rt d) m => some (d, m.S)
  | _ => none
theorem bodyF_see {n : Nat} {b : Mo Fl} {l : List D} {S : List SO} {d : D} (h : seen (b ⟨l.map .va ++ List.replicate (n - l.length) .un, S⟩) = some (d, S)) : bodyF n b l ⟨[], S⟩ = .ok d ⟨[], S⟩ := by
  unfold bodyF
  revert h
  generalize b ⟨l.map .va ++ List.replicate (n - l.length) .un, S⟩ = r
  intro h
  match r, h with
  | .ok (.rt d') m, h =>
    simp only [seen, Option.some.injEq, Prod.mk.injEq] at h
    obtain ⟨rfl, h2⟩ := h
    simp only [h2, trunc_self]
structure LK5 (L : Nat → Str → Fn) : Prop where
  other : ∀ k, L (k + 1) "_law_other" = bodyF 10 (evTs (L k) b__law_other_v2)
  due : ∀ k, L (k + 1) "_law_due" = bodyF 8 (evTs (L k) b__law_due_v1)
  ref : ∀ k, L (k + 1) "_law_refusal" = bodyF 4 (evTs (L k) b__law_refusal)
  dif : ∀ k, L (k + 1) "_law_differ" = bodyF 6 (evTs (L k) b__law_differ)
  wor : ∀ k, L (k + 1) "_law_worlds" = bodyF 5 (evTs (L k) b__law_worlds)
  all : ∀ k, L (k + 1) "_law_all" = bodyF 8 (evTs (L k) b__law_all_v1)
  spo : ∀ k, L (k + 1) "_law_spoilt" = bodyF 4 (evTs (L k) b__law_spoilt)
  tru : ∀ k, L (k + 1) "_law_truths" = bodyF 2 (evTs (L k) b__law_truths)
  twi : ∀ k, L (k + 1) "_law_twins_are" = bodyF 9 (evTs (L k) b__law_twins_are)
  spa : ∀ k, L (k + 1) "_law_spoilt_are" = bodyF 11 (evTs (L k) b__law_spoilt_are)
  law : ∀ k, L (k + 1) "law" = bodyF 13 (evTs (L k) b_law_k05)
theorem eqNilL (l : List Int) : cmpD .eq (.lst (l.map .int)) (.lst []) = some (decide (l = [])) := z_eql l []
def diff (hb : List Int) (a b : List Int) : List Nat := (((List.range 32).filter fun i => !decide (a.getD i 0 = b.getD i 0)).filter fun i => !hb.contains (i : Int))
theorem filter_nil {α : Type} (p q r : α → Bool) (h : ∀ x, r x = !(p x && q x)) : ∀ l : List α, decide (((l.filter p).filter q) = []) = l.all r
  | [] => rfl
  | x :: l => by
    rw [List.all_cons, ← filter_nil p q r h l, h x, List.filter_cons]
    cases hp : p x <;> simp [List.filter_cons]
    cases hq : q x <;> simp
section
variable {L : Nat → Str → Fn} (hL : LK5 L) (k : Nat) (S : List SO)
include hL
theorem due_ok {hb ht bs bs' : List Int} {ts ts' : List (List Int)} (h1 : WOk bs ts) (h2 : WOk bs' ts') : L (k + 1) "_law_due" [hD hb ht, wD bs ts, wD bs' ts'] ⟨[], S⟩ = .ok (.bl (difB hb ht bs ts bs' ts')) ⟨[], S⟩ := by
  rw [hL.due]
  unfold bodyF b__law_due_v1
  have s32 : small62 32 = true := by decide
  have s4 : small62 4 = true := by decide
  have c1 : evN (L k) c1__law_due_v1 ⟨[.va (hD hb ht), .va (wD bs ts), .va (wD bs' ts'), .un, .un, .un, .un, .un], S⟩ = .ok (.lst (((List.range 32).filter fun (i : Nat) => !decide (bs.getD i 0 = bs'.getD i 0)).map fun (i : Nat) => .int (i : Int))) ⟨[.va (hD hb ht), .va (wD bs ts), .va (wD bs' ts'), .un, .un, .un, .un, .un], S⟩ := by
    unfold c1__law_due_v1
    refine lc_okI (g := fun x : Nat => .int (x : Int)) (fun (x : Nat) => [.va (hD hb ht), .va (wD bs ts), .va (wD bs' ts'), .un, .un, .va (.int (x : Int)), .un, .un]) (by simp [s32]) rfl (by simp [Tg.slots]) (fun x _ => by simp) (fun x _ => by simp) (fun x hx => ?_) (fun x hx _ => by simp) (by rw [sizeLine_eq]; simp)
    have lt := List.mem_range.mp hx
    have a1 : atI (bs.map D.int) (x : Int) = some (.int (bs.getD x 0)) := atI_ints (by have := h1.n; omega)
    have a2 : atI (bs'.map D.int) (x : Int) = some (.int (bs'.getD x 0)) := atI_ints (by have := h2.n; omega)
    simp [rD, a1, a2]
  generalize hF1 : ((List.range 32).filter fun (i : Nat) => !decide (bs.getD i 0 = bs'.getD i 0)) = F1 at c1
  have c2 : ∀ s3 : Sl, evN (L k) c2__law_due_v1 ⟨[.va (hD hb ht), .va (wD bs ts), .va (wD bs' ts'), s3, .un, .un, .un, .un], S⟩ = .ok (.lst (((List.range 4).filter fun (i : Nat) => !decide (ts.getD i [] = ts'.getD i [])).map fun (i : Nat) => .int (i : Int))) ⟨[.va (hD hb ht), .va (wD bs ts), .va (wD bs' ts'), s3, .un, .un, .un, .un], S⟩ := by
    intro s3
    unfold c2__law_due_v1
    refine lc_okI (g := fun x : Nat => .int (x : Int)) (fun (x : Nat) => [.va (hD hb ht), .va (wD bs ts), .va (wD bs' ts'), s3, .un, .un, .va (.int (x : Int)), .un]) (by simp [s4]) rfl (by simp [Tg.slots]) (fun x _ => by simp) (fun x _ => by simp) (fun x hx => ?_) (fun x hx _ => by simp) (by rw [sizeLine_eq]; simp)
    have lt := List.mem_range.mp hx
    have a1 : atI (ts.map rD) (x : Int) = some (rD (ts.getD x [])) := atI_rows (by have := h1.m; omega)
    have a2 : atI (ts'.map rD) (x : Int) = some (rD (ts'.getD x [])) := atI_rows (by have := h2.m; omega)
    simp [a1, a2]
  generalize hF2 : ((List.range 4).filter fun (i : Nat) => !decide (ts.getD i [] = ts'.getD i [])) = F2 at c2
  have z : ∀ (i : Int) (l : List Int), cmpD .notin (.int i) (rD l) = some (!l.contains i) := fun i l => z_notin i l
  have l1 : F1.length ≤ 32 := by rw [← hF1]; exact Nat.le_trans (List.length_filter_le _ _) (by simp)
  have l2 : F2.length ≤ 4 := by rw [← hF2]; exact Nat.le_trans (List.length_filter_le _ _) (by simp)
  have c3 : ∀ o : Ob, evN (L k) c3__law_due_v1 ⟨[.va (hD hb ht), .va (wD bs ts), .va (wD bs' ts'), .own (.lst (F1.map fun (i : Nat) => .int (i : Int))), .own o, .un, .un, .un], S⟩ = .ok (.lst ((F1.filter fun (i : Nat) => !hb.contains (i : Int)).map fun (i : Nat) => .int (i : Int))) ⟨[.va (hD hb ht), .va (wD bs ts), .va (wD bs' ts'), .va (.lst (F1.map fun (i : Nat) => .int (i : Int))), .own o, .un, .un, .un], S⟩ := by
    intro o
    unfold c3__law_due_v1
    refine lc_okI (g := fun x : Nat => .int (x : Int)) (fun (x : Nat) => [.va (hD hb ht), .va (wD bs ts), .va (wD bs' ts'), .va (.lst (F1.map fun (i : Nat) => .int (i : Int))), .own o, .va (.int (x : Int)), .un, .un]) (by simp) rfl (by simp [Tg.slots]) (fun x _ => by simp) (fun x _ => by simp) (fun x hx => by simp [z]) (fun x hx _ => by simp) (by rw [sizeLine_eq]; omega)
  have c4 : ∀ s3 : Sl, evN (L k) c4__law_due_v1 ⟨[.va (hD hb ht), .va (wD bs ts), .va (wD bs' ts'), s3, .own (.lst (F2.map fun (i : Nat) => .int (i : Int))), .un, .un, .un], S⟩ = .ok (.lst ((F2.filter fun (i : Nat) => !ht.contains (i : Int)).map fun (i : Nat) => .int (i : Int))) ⟨[.va (hD hb ht), .va (wD bs ts), .va (wD bs' ts'), s3, .va (.lst (F2.map fun (i : Nat) => .int (i : Int))), .un, .un, .un], S⟩ := by
    intro s3
    unfold c4__law_due_v1
    refine lc_okI (g := fun x : Nat => .int (x : Int)) (fun (x : Nat) => [.va (hD hb ht), .va (wD bs ts), .va (wD bs' ts'), s3, .va (.lst (F2.map fun (i : Nat) => .int (i : Int))), .un, .un, .va (.int (x : Int))]) (by simp) rfl (by simp [Tg.slots]) (fun x _ => by simp) (fun x _ => by simp) (fun x hx => by simp [z]) (fun x hx _ => by simp) (by rw [sizeLine_eq]; omega)
  have en := eqNilL (((F1.filter fun (i : Nat) => !hb.contains (i : Int)).map fun (i : Nat) => (i : Int)) ++ ((F2.filter fun (i : Nat) => !ht.contains (i : Int)).map fun (i : Nat) => (i : Int)))
  have fin : decide (((F1.filter fun (i : Nat) => !hb.contains (i : Int)).map fun (i : Nat) => (i : Int)) ++ ((F2.filter fun (i : Nat) => !ht.contains (i : Int)).map fun (i : Nat) => (i : Int)) = []) = difB hb ht bs ts bs' ts' := by
    rw [difB, ← filter_nil (fun i => !decide (bs.getD i 0 = bs'.getD i 0)) (fun i => !hb.contains (i : Int)) (okB hb bs bs') (fun i => by unfold okB; cases hb.contains (i : Int) <;> simp), ← filter_nil (fun i => !decide (ts.getD i [] = ts'.getD i [])) (fun i => !ht.contains (i : Int)) (okT ht ts ts') (fun i => by unfold okT; cases ht.contains (i : Int) <;> simp), hF1, hF2]
    simp
  rw [fin] at en
  rw [List.map_append, List.map_map, List.map_map] at en
  have g1 : (F1.filter fun (i : Nat) => !hb.contains (i : Int)).length ≤ 32 := Nat.le_trans (List.length_filter_le _ _) l1
  have g2 : (F2.filter fun (i : Nat) => !ht.contains (i : Int)).length ≤ 4 := Nat.le_trans (List.length_filter_le _ _) l2
  have g3 : (F1.filter fun (i : Nat) => !hb.contains (i : Int)).length + (F2.filter fun (i : Nat) => !ht.contains (i : Int)).length ≤ sizeLine := by rw [sizeLine_eq]; omega
  generalize (F1.filter fun (i : Nat) => !hb.contains (i : Int)) = G1 at *
  generalize (F2.filter fun (i : Nat) => !ht.contains (i : Int)) = G2 at *
  simp only [Function.comp_def] at en
  simp [c1, c2, c3, c4, g3, en]
theorem refusal_ok (Φ : Str → Fn) : bodyF 4 (evTs Φ b__law_refusal) [.exo "BadHidden"] ⟨[], S⟩ = .ok (.str "hidden") ⟨[], S⟩ ∧ bodyF 4 (evTs Φ b__law_refusal) [.exo "BadWorld"] ⟨[], S⟩ = .ok (.str "world") ⟨[], S⟩ ∧ bodyF 4 (evTs Φ b__law_refusal) [.exo "TooMany"] ⟨[], S⟩ = .ok (.str "many") ⟨[], S⟩ := by
  refine ⟨?_, ?_, ?_⟩ <;> refine bodyF_see ?_ <;> kernel_rfl
end
end LB

namespace LB
open PySem L2 PyProof.Rows
/-! ### the worlds of a world -/
def expand (f : List (List Int)) (box : Int) : List (List Int) := f.flatMap fun b => (List.range 16).map fun (w : Nat) => b.set box.toNat (w : Int)
def worldsB (bs hb : List Int) : List (List Int) := hb.foldl expand [bs]
theorem set_cut : ∀ {b : List Int} {n : Nat} (w : Int), n < b.length → (b.map D.int).take n ++ D.int w :: (b.map D.int).drop (n + 1) = (b.set n w).map .int
  | a :: b, 0, w, _ => by simp
  | a :: b, n + 1, w, h => by simpa using set_cut (b := b) (n := n) w (by simpa using h)
section
variable {L : Nat → Str → Fn} (hW : LWorlds L) (hN : LNeed L) (hD' : LDiff L) (k : Nat) (S : List SO)
include hW hN hD'
theorem worlds_good {hb bs : List Int} {ts : List (List Int)} (hh : HOk hb []) (h1 : WOk bs ts) (h2 : hb.length ≤ 2) : L (k + 6) "worlds_of" [wD bs ts, hD hb []] ⟨[], S⟩ = .ok (.ref S.length) ⟨[], S ++ [.ob (.lst ((worldsB bs hb).map fun b => wD b ts))]⟩ := by
  rw [hD'.wo]
  unfold bodyF b_worlds_of_v1
  have n1 := need_hidden_ok hW hN (k + 1) S hh.pl
  have n2 := need_world_ok hW hN k S h1.pl
  rw [if_pos hh.is] at n1
  rw [if_pos h1.is] at n2
  have s16 : small62 16 = true := by decide
  have c1 : ∀ (s4 s2 : Sl) (b : List Int) (box : Int), b.length = 32 → 0 ≤ box → box ≤ 31 → evN (L (k + 5)) c1_worlds_of_v1 ⟨[.va (wD bs ts), .va (hD hb []), s2, .va (.int box), s4, .va (rD b), .un], S⟩ = .ok (.lst ((List.range 16).map fun (w : Nat) => rD (b.set box.toNat (w : Int)))) ⟨[.va (wD bs ts), .va (hD hb []), s2, .va (.int box), s4, .va (rD b), .un], S⟩ := by
    intro s4 s2 b box hl b0 b1
    unfold c1_worlds_of_v1
    refine lc_mapI (g := fun x : Nat => .int (x : Int)) (fun (x : Nat) => [.va (wD bs ts), .va (hD hb []), s2, .va (.int box), s4, .va (rD b), .va (.int (x : Int))]) (by simp [s16]) rfl (by simp [Tg.slots]) (fun x _ => by simp) (fun x _ => by simp) (fun x hx => ?_) (by rw [sizeLine_eq]; simp)
    have q := set_cut (b := b) (n := box.toNat) (x : Int) (by omega)
    have e1 : (box + 1).toNat = box.toNat + 1 := by omega
    have z1 : (min box.toNat b.length + 1 ≤ sizeLine) := by rw [sizeLine_eq]; omega
    have z2 : (min box.toNat b.length + 1 + (b.length - (box.toNat + 1)) ≤ sizeLine) := by rw [sizeLine_eq]; omega
    have z3 : 1 ≤ sizeLine := by rw [sizeLine_eq]; omega
    simp only [rD] at *
    simp [cut_hi b0, cut_lo (show 0 ≤ box + 1 by omega), e1, z1, z2, z3]
    simpa using q
  have in1 : ∀ (s2 : Sl) (box : Int), 0 ≤ box → box ≤ 31 → ∀ (Y acc : List (List Int)), (∀ b ∈ Y, b.length = 32) → acc.length + 16 * Y.length ≤ 4096 → forL [5] (.nm 5) (evTs (L (k + 5)) l1_worlds_of_v1) (Y.map rD) ⟨[.va (wD bs ts), .va (hD hb []), s2, .va (.int box), .own (.lst (acc.map rD)), .un, .un], S⟩ = .ok .nx ⟨[.va (wD bs ts), .va (hD hb []), s2, .va (.int box), .own (.lst ((acc ++ expand Y box).map rD)), .un, .un], S⟩ := by
    intro s2 box b0 b1 Y
    induction Y with
    | nil => intro acc _ _; simp [forL_nil, expand]
    | cons b Y ih =>
      intro acc hY hz
      have hb' := hY b List.mem_cons_self
      have hz' : acc.length + 16 ≤ sizeLine := by rw [sizeLine_eq]; simp at hz; omega
      have st : evTs (L (k + 5)) l1_worlds_of_v1 ⟨[.va (wD bs ts), .va (hD hb []), s2, .va (.int box), .own (.lst (acc.map rD)), .va (rD b), .un], S⟩ = .ok .nx ⟨[.va (wD bs ts), .va (hD hb []), s2, .va (.int box), .own (.lst ((acc ++ (List.range 16).map fun (w : Nat) => b.set box.toNat (w : Int)).map rD)), .va (rD b), .un], S⟩ := by
        unfold l1_worlds_of_v1
        simp [c1 _ _ b box hb' b0 b1, hz']
      rw [List.map_cons, forL_step (ρ := [.va (wD bs ts), .va (hD hb []), s2, .va (.int box), .own (.lst (acc.map rD)), .va (rD b), .un]) rfl st]
      have := ih (acc ++ (List.range 16).map fun (w : Nat) => b.set box.toNat (w : Int)) (fun x hx => hY x (List.mem_cons_of_mem _ hx)) (by simp at hz ⊢; omega)
      simp only [List.append_assoc] at this
      exact this
  have out1 : ∀ (Hb : List Int), (∀ x ∈ Hb, 0 ≤ x ∧ x ≤ 31) → ∀ (X : List (List Int)) (m : Mst), (m = ⟨[.va (wD bs ts), .va (hD hb []), .own (.lst (X.map rD)), .un, .un, .un, .un], S⟩ ∨ m = ⟨[.va (wD bs ts), .va (hD hb []), .va (.lst (X.map rD)), .un, .un, .un, .un], S⟩) → (∀ b ∈ X, b.length = 32) → X.length * 16 ^ Hb.length ≤ 4096 →
      ∃ m', forL [3, 4, 5] (.nm 3) (evTs (L (k + 5)) l2_worlds_of_v1) (Hb.map D.int) m = .ok .nx m' ∧ (m' = ⟨[.va (wD bs ts), .va (hD hb []), .own (.lst ((Hb.foldl expand X).map rD)), .un, .un, .un, .un], S⟩ ∨ m' = ⟨[.va (wD bs ts), .va (hD hb []), .va (.lst ((Hb.foldl expand X).map rD)), .un, .un, .un, .un], S⟩) ∧ (Hb.foldl expand X).length ≤ 4096 := by
    intro Hb
    induction Hb with
    | nil => intro _ X m hm hX hz; exact ⟨m, rfl, hm, by simpa using hz⟩
    | cons box Hb ih =>
      intro hH X m hm hX hz
      obtain ⟨b0, b1⟩ := hH box List.mem_cons_self
      have p1 : 1 ≤ 16 ^ Hb.length := Nat.pow_pos (by decide)
      have hz2 : X.length * 16 * 16 ^ Hb.length ≤ 4096 := by rw [List.length_cons, Nat.pow_succ] at hz; rw [Nat.mul_assoc, Nat.mul_comm 16]; exact hz
      have hz1 : 16 * X.length ≤ 4096 := by
        have := Nat.le_trans (Nat.mul_le_mul_left (X.length * 16) p1) hz2
        omega
      have i := in1 (.va (.lst (X.map rD))) box b0 b1 X [] hX (by simpa using hz1)
      simp only [List.map_nil, List.nil_append] at i
      have st : ∀ s2, (s2 = .own (.lst (X.map rD)) ∨ s2 = .va (.lst (X.map rD))) → evTs (L (k + 5)) l2_worlds_of_v1 ⟨[.va (wD bs ts), .va (hD hb []), s2, .va (.int box), .un, .un, .un], S⟩ = .ok .nx ⟨[.va (wD bs ts), .va (hD hb []), .va (.lst ((expand X box).map rD)), .va (.int box), .va (.lst ((expand X box).map rD)), .un, .un], S⟩ := by
        intro s2 hs
        unfold l2_worlds_of_v1
        rcases hs with rfl | rfl <;> simp [i, sizeLine_eq]
      have fin := ih (fun x hx => hH x (List.mem_cons_of_mem _ hx)) (expand X box) _ (.inr rfl) (fun b hb => by
        obtain ⟨y, hy, hb⟩ := List.mem_flatMap.mp hb
        obtain ⟨w, _, rfl⟩ := List.mem_map.mp hb
        rw [List.length_set]; exact hX y hy) (by
        have : (expand X box).length = X.length * 16 := by
          simp only [expand, List.length_flatMap, List.length_map, List.length_range, List.map_const', List.sum_replicate_nat]
        rw [this]; exact hz2)
      obtain ⟨m', e, q⟩ := fin
      refine ⟨m', ?_, q⟩
      rcases hm with rfl | rfl
      · rw [List.map_cons, forL_step (ρ := [.va (wD bs ts), .va (hD hb []), .own (.lst (X.map rD)), .va (.int box), .un, .un, .un]) rfl (st _ (.inl rfl))]
        exact e
      · rw [List.map_cons, forL_step (ρ := [.va (wD bs ts), .va (hD hb []), .va (.lst (X.map rD)), .va (.int box), .un, .un, .un]) rfl (st _ (.inr rfl))]
        exact e
  obtain ⟨m', e, q, ln⟩ := out1 hb (fun x hx => hh.b x hx) [bs] _ (.inl rfl) (by simpa using h1.n) (by
    have : 16 ^ hb.length ≤ 16 ^ 2 := Nat.pow_le_pow_right (by decide) h2
    simp; omega)
  have c2 : ∀ m, (m = (⟨[.va (wD bs ts), .va (hD hb []), .own (.lst ((worldsB bs hb).map rD)), .un, .un, .un, .un], S⟩ : Mst) ∨ m = ⟨[.va (wD bs ts), .va (hD hb []), .va (.lst ((worldsB bs hb).map rD)), .un, .un, .un, .un], S⟩) → evN (L (k + 5)) c2_worlds_of_v1 m = .ok (.lst ((worldsB bs hb).map fun b => wD b ts)) ⟨[.va (wD bs ts), .va (hD hb []), .va (.lst ((worldsB bs hb).map rD)), .un, .un, .un, .un], S⟩ := by
    intro m hm
    unfold c2_worlds_of_v1
    refine lc_mapI (g := rD) (fun (b : List Int) => [.va (wD bs ts), .va (hD hb []), .va (.lst ((worldsB bs hb).map rD)), .un, .un, .va (rD b), .un]) (by rcases hm with rfl | rfl <;> simp) rfl (by simp [Tg.slots]) (fun x _ => by simp) (fun x _ => by simp) (fun x hx => ?_) (by rw [sizeLine_eq]; unfold worldsB; omega)
    have z2 : 2 ≤ sizeLine := by rw [sizeLine_eq]; omega
    simp [z2]
    rfl
  have ev2 := c2 m' q
  have hlen : ¬ ((hb.length : Int) > 2) := by omega
  have eqt : cmpD .eq (rD []) (.tup []) = some true := z_eqr [] []
  have z1 : 1 ≤ sizeLine := by rw [sizeLine_eq]; omega
  have lr : ∀ l : List Int, lenD (rD l) = some l.length := fun l => by simp [rD]
  have it : itemsD (rD hb) = some (hb.map D.int) := rfl
  simp only [List.map_cons, List.map_nil] at e
  simp [n1, n2, lr, hlen, eqt, z1, it, e, ev2]
theorem worlds_many {hb ht bs : List Int} {ts : List (List Int)} (hh : HOk hb ht) (h1 : WOk bs ts) (h2 : ¬ (hb.length ≤ 2 ∧ ht = [])) : L (k + 6) "worlds_of" [wD bs ts, hD hb ht] ⟨[], S⟩ = .exc ⟨"TooMany", []⟩ ⟨[], S⟩ := by
  rw [hD'.wo]
  unfold bodyF b_worlds_of_v1
  have n1 := need_hidden_ok hW hN (k + 1) S hh.pl
  have n2 := need_world_ok hW hN k S h1.pl
  rw [if_pos hh.is] at n1
  rw [if_pos h1.is] at n2
  have lr : ∀ l : List Int, lenD (rD l) = some l.length := fun l => by simp [rD]
  have eqt : cmpD .eq (rD ht) (.tup []) = some (decide (ht = [])) := z_eqr ht []
  by_cases c : 2 < (hb.length : Int)
  · simp [n1, n2, lr, c]
  · have : ht ≠ [] := fun e => h2 ⟨by omega, e⟩
    simp [n1, n2, lr, c, eqt, this]
theorem worlds_bad {d1 d2 : D} (p1 : plB d1 = true) (p2 : plB d2 = true) (h : (isWorldB d1 && isHiddenB d2) = false) : L (k + 6) "worlds_of" [d1, d2] ⟨[], S⟩ = .exc ⟨if isWorldB d1 = true then "BadHidden" else "BadWorld", []⟩ ⟨[], S⟩ := by
  rw [hD'.wo]
  unfold bodyF b_worlds_of_v1
  have n1 := need_hidden_ok hW hN (k + 1) S p2
  have n2 := need_world_ok hW hN k S p1
  cases e1 : isWorldB d1 <;> cases e2 : isHiddenB d2 <;> simp [e1, e2] at h n1 n2 <;> simp [n1, n2]
end
end LB

namespace LB
open PySem L2 PyProof.Rows
/-! ### the law's own worlds -/
def putB (bs : List Int) : List Int → Nat → List Int
  | [b], n => bs.set b.toNat ((n % 16 : Nat) : Int)
  | [b, c], n => (bs.set c.toNat ((n % 16 : Nat) : Int)).set b.toNat ((n / 16 % 16 : Nat) : Int)
  | _, _ => bs
theorem range256 : List.range 256 = (List.range 16).flatMap fun i => (List.range 16).map fun j => 16 * i + j := by decide +kernel
theorem flatMap_congrL {α β : Type} {f g : α → List β} : ∀ {l : List α}, (∀ x ∈ l, f x = g x) → l.flatMap f = l.flatMap g
  | [], _ => rfl
  | a :: l, h => by
    rw [List.flatMap_cons, List.flatMap_cons, h a List.mem_cons_self, flatMap_congrL fun x hx => h x (List.mem_cons_of_mem _ hx)]
theorem putB_all {bs hb : List Int} (h : ∀ x ∈ hb, 0 ≤ x ∧ x ≤ 31) (hp : hb.Pairwise (· < ·)) (h2 : hb.length ≤ 2) : (List.range (16 ^ hb.length)).map (putB bs hb) = worldsB bs hb := by
  match hb, h2 with
  | [], _ => rfl
  | [b], _ =>
    show (List.range 16).map _ = expand [bs] b
    simp only [expand, List.flatMap_cons, List.flatMap_nil, List.append_nil]
    refine List.map_congr_left fun n hn => ?_
    have := List.mem_range.mp hn
    simp only [putB]
    rw [Nat.mod_eq_of_lt this]
  | [b, c], _ =>
    show (List.range 256).map _ = expand (expand [bs] b) c
    rw [range256, List.map_flatMap]
    simp only [expand, List.flatMap_cons, List.flatMap_nil, List.append_nil, List.flatMap_map, List.map_map]
    refine flatMap_congrL fun i hi => ?_
    refine List.map_congr_left fun j hj => ?_
    have h1 := List.mem_range.mp hi
    have h2 := List.mem_range.mp hj
    have b0 := h b (by simp)
    have c0 := h c (by simp)
    have lt : b < c := (List.pairwise_cons.mp hp).1 c (by simp)
    simp only [Function.comp_apply, putB]
    rw [show (16 * i + j) % 16 = j by omega, show (16 * i + j) / 16 % 16 = i by omega, List.set_comm _ _ (by omega)]
theorem ix3 {Φ : Str → Fn} {m : Mst} {a b c : D} {E : Ex} {i : Int} {d : D} (hE : E.opd (evE Φ E) = (none, evE Φ E)) (h : evE Φ E m = .ok (.int i) m) (ha : atI [a, b, c] i = some d) : evE Φ (.ix (.nw (.lst (.cons (.k a) (.cons (.k b) (.cons (.k c) .nil))))) E) m = .ok d m := by
  have z3 : 3 ≤ sizeLine := by rw [sizeLine_eq]; omega
  rw [z_ix, hE]
  simp [h, z3, ha]
section
variable {L : Nat → Str → Fn} (hL : LK5 L) (k : Nat) (S : List SO)
include hL
theorem all_ok5 {hb bs : List Int} {ts : List (List Int)} (hh : HOk hb []) (h1 : WOk bs ts) (h2 : hb.length ≤ 2) : L (k + 1) "_law_all" [wD bs ts, hD hb []] ⟨[], S⟩ = .ok (.lst ((worldsB bs hb).map fun b => wD b ts)) ⟨[], S⟩ := by
  rw [hL.all]
  have many : ∃ j : Nat, atI [D.int 1, .int 16, .int 256] (hb.length : Int) = some (.int (j : Int)) ∧ j = 16 ^ hb.length ∧ j ≤ 256 := by
    have a3 : ∀ x y z : D, atI [x, y, z] 0 = some x ∧ atI [x, y, z] 1 = some y ∧ atI [x, y, z] 2 = some z := fun _ _ _ => ⟨rfl, rfl, rfl⟩
    obtain ⟨q0, q1, q2⟩ := a3 (.int 1) (.int 16) (.int 256)
    rcases (by omega : hb.length = 0 ∨ hb.length = 1 ∨ hb.length = 2) with e | e | e <;> rw [e]
    · exact ⟨1, by simpa using q0, by simp, by omega⟩
    · exact ⟨16, by simpa using q1, by simp, by omega⟩
    · exact ⟨256, by simpa using q2, by simp, by omega⟩
  obtain ⟨j, aj, ej, lj⟩ := many
  have lr : ∀ l : List Int, lenD (rD l) = some l.length := fun l => by simp [rD]
  have lt3 : (hb.length : Int) < 3 := by omega
  have z3 : 3 ≤ sizeLine := by rw [sizeLine_eq]; omega
  have a20 : ∀ x y : D, atI [x, y] 0 = some x := fun _ _ => rfl
  have a21 : ∀ x y : D, atI [x, y] 1 = some y := fun _ _ => rfl
  have z2 : 2 ≤ sizeLine := by rw [sizeLine_eq]; omega
  have lp := forL_app (g := fun (n : Nat) => D.int (n : Int)) (ks := [4, 5, 6, 7]) (t := .nm 4) (b := evTs (L k) l2__law_all_v1) (fun acc : List D => ⟨[.va (wD bs ts), .va (hD hb []), .own (.lst acc), .va (.int (j : Int)), .un, .un, .un, .un], S⟩) (fun n => [wD (putB bs hb n) ts]) 4096 (xs := List.range j) (acc := []) (fun n hn acc hz => by
    have ln := List.mem_range.mp hn
    have hz' : acc.length < sizeLine := by rw [sizeLine_eq]; simp at hz; omega
    have L1 : (bs.map D.int).length = 32 := by rw [List.length_map, h1.n]
    suffices h : ∃ (s5 : List D), s5 = (putB bs hb n).map D.int ∧ evTs (L k) l2__law_all_v1 ⟨[.va (wD bs ts), .va (hD hb []), .own (.lst acc), .va (.int (j : Int)), .va (.int (n : Int)), .un, .un, .un], S⟩ = .ok .nx ⟨[.va (wD bs ts), .va (hD hb []), .own (.lst (acc ++ [.tup [.tup s5, .tup (ts.map rD)]])), .va (.int (j : Int)), .va (.int (n : Int)), .own (.lst s5), .un, .un], S⟩ by
      obtain ⟨s5, e5, e⟩ := h
      subst e5
      exact ⟨_, _, rfl, e, rfl⟩
    match hb, h2, hh with
    | [], _, _ =>
      refine ⟨_, rfl, ?_⟩
      unfold l2__law_all_v1
      simp [rD_list, rD_rev, rD_en, hz', z2, enumF, forL_nil, putB]
    | [b], _, hh =>
      have b0 := hh.b b (by simp)
      obtain ⟨c, rfl⟩ := Int.eq_ofNat_of_zero_le b0.1
      have lc : c < (bs.map D.int).length := by rw [L1]; omega
      refine ⟨(bs.map D.int).set c (.int (n % 16)), ?_, ?_⟩
      · simp [putB]
      · unfold l2__law_all_v1
        simp [rD_list, rD_rev, rD_en, hz', z2, enumF, forL_nil, forL_cons, l1__law_all_v1, a20, a21, ixN_at (show c < bs.length by simpa using lc)]
    | [b, c], _, hh =>
      have b0 := hh.b b (by simp)
      have c0 := hh.b c (by simp)
      obtain ⟨b, rfl⟩ := Int.eq_ofNat_of_zero_le b0.1
      obtain ⟨c, rfl⟩ := Int.eq_ofNat_of_zero_le c0.1
      have lb : b < bs.length := by rw [h1.n]; omega
      have lc : c < bs.length := by rw [h1.n]; omega
      refine ⟨((bs.map D.int).set c (.int (n % 16))).set b (.int (n / 16 % 16)), ?_, ?_⟩
      · simp [putB]
      · unfold l2__law_all_v1
        simp [rD_list, rD_rev, rD_en, hz', z2, enumF, forL_nil, forL_cons, l1__law_all_v1, a20, a21, ixN_at lb, ixN_at lc]) (by
    have : ((List.range j).flatMap fun n => [wD (putB bs hb n) ts]).length = j := by
      rw [List.length_flatMap]
      have : ∀ l : List Nat, (l.map fun n => [wD (putB bs hb n) ts].length).sum = l.length := fun l => by
        induction l with
        | nil => rfl
        | cons a l ih => rw [List.map_cons, List.sum_cons, ih, List.length_cons]; simp; omega
      rw [this, List.length_range]
    rw [this]; simp; omega)
  have fm : ∀ l : List Nat, l.flatMap (fun n => [wD (putB bs hb n) ts]) = (l.map (putB bs hb)).map fun b => wD b ts := fun l => by
    induction l with
    | nil => rfl
    | cons a l ih => rw [List.flatMap_cons, ih]; rfl
  have pa := putB_all (bs := bs) hh.b hh.bp h2
  rw [← ej] at pa
  simp only [fm, pa, List.nil_append] at lp
  have fin : evTs (L k) b__law_all_v1 ⟨[.va (wD bs ts), .va (hD hb []), .un, .un, .un, .un, .un, .un], S⟩ = .ok (.rt (.lst ((worldsB bs hb).map fun b => wD b ts))) ⟨[.va (wD bs ts), .va (hD hb []), .va (.lst ((worldsB bs hb).map fun b => wD b ts)), .va (.int (j : Int)), .un, .un, .un, .un], S⟩ := by
    unfold b__law_all_v1
    rw [seq_nx (m' := ⟨[.va (wD bs ts), .va (hD hb []), .own (.lst []), .un, .un, .un, .un, .un], S⟩) (by simp)]
    rw [seq_nx (m' := ⟨[.va (wD bs ts), .va (hD hb []), .own (.lst []), .va (.int (j : Int)), .un, .un, .un, .un], S⟩) (asg_nm (ite_t (m' := ⟨[.va (wD bs ts), .va (hD hb []), .own (.lst []), .un, .un, .un, .un, .un], S⟩) (by simp [lr, lt3]) (ix3 (i := (hb.length : Int)) rfl (by simp [lr]) aj)))]
    rw [seq_nx (m' := ⟨[.va (wD bs ts), .va (hD hb []), .own (.lst ((worldsB bs hb).map fun b => wD b ts)), .va (.int (j : Int)), .un, .un, .un, .un], S⟩) (by
      exact for_nx (evS_rng (by simp) (by omega)) lp)]
    rw [seq_rt (d := .lst ((worldsB bs hb).map fun b => wD b ts)) (m' := ⟨[.va (wD bs ts), .va (hD hb []), .va (.lst ((worldsB bs hb).map fun b => wD b ts)), .va (.int (j : Int)), .un, .un, .un, .un], S⟩) (by simp)]
  rw [body_rt (S := S) rfl fin, trunc_self]
end
end LB

namespace LB
open PySem L2 PyProof.Rows
theorem WOk.thing {bs : List Int} {ts : List (List Int)} (h : WOk bs ts) : Thing (wD bs ts) := by
  have r : ∀ l : List Int, l.length ≤ 32 → (∀ x ∈ l, 0 ≤ x ∧ x ≤ 15) → Row (rD l) := fun l hl hx => ⟨_, rfl, by simpa using hl, fun x hx' => by
    obtain ⟨i, hi, rfl⟩ := List.mem_map.mp hx'
    have := hx i hi
    exact ⟨_, rfl, by omega, by omega⟩⟩
  refine ⟨_, rfl, by simp, by simp, fun x hx => ?_⟩
  simp only [List.mem_cons, List.not_mem_nil, or_false] at hx
  rcases hx with rfl | rfl
  · exact .inr (.inl (r _ (by rw [h.n]; omega) h.b))
  · refine .inr (.inr ⟨_, rfl, by simp [h.m], fun x hx => ?_⟩)
    obtain ⟨l, hl, rfl⟩ := List.mem_map.mp hx
    exact r _ (by rw [h.l l hl]; omega) (h.t l hl)
theorem HOk.thing {hb ht : List Int} (h : HOk hb ht) : Thing (hD hb ht) := by
  have r : ∀ l : List Int, l.length ≤ 32 → (∀ x ∈ l, 0 ≤ x ∧ x ≤ 31) → Row (rD l) := fun l hl hx => ⟨_, rfl, by simpa using hl, fun x hx' => by
    obtain ⟨i, hi, rfl⟩ := List.mem_map.mp hx'
    have := hx i hi
    exact ⟨_, rfl, by omega, by omega⟩⟩
  refine ⟨_, rfl, by simp, by simp, fun x hx => ?_⟩
  simp only [List.mem_cons, List.not_mem_nil, or_false] at hx
  rcases hx with rfl | rfl
  · exact .inr (.inl (r _ h.bl h.b))
  · exact .inr (.inl (r _ (by have := h.tl; omega) fun x hx => by have := h.t x hx; omega))
/-! ### truths for noughts and ones -/
theorem tru_row {lo hi : Int} {n : Nat} : ∀ {l : List Int}, ((l.map D.int).map (truN n)).all (amongB lo hi) = true → (l.map D.int).map (truN n) = l.map D.int
  | [], _ => rfl
  | i :: l, h => by
    simp only [List.map_cons, List.all_cons, Bool.and_eq_true] at h
    rw [List.map_cons, List.map_cons, tru_row h.2]
    have e : truN n (.int i) = truI (.int i) := by cases n <;> rfl
    have h1 := h.1
    rw [e] at h1 ⊢
    unfold truI at h1 ⊢
    by_cases c : i < 2
    · simp only [if_pos c, amongB] at h1; cases h1
    · simp only [if_neg c]
theorem truN2 (l : List Int) : truN 2 (rD l) = .tup ((l.map D.int).map (truN 1)) := rfl
theorem twin_h {hb ht : List Int} (h : isHiddenB (truN 3 (hD hb ht)) = true) : truN 3 (hD hb ht) = hD hb ht := by
  have e : truN 3 (hD hb ht) = .tup [truN 2 (rD hb), truN 2 (rD ht)] := rfl
  rw [e] at h ⊢
  simp only [truN2, isHiddenB, risingB, Bool.and_eq_true] at h ⊢
  rw [tru_row h.1.1, tru_row h.2.1]
  rfl
theorem twin_w {bs : List Int} {ts : List (List Int)} (h : isWorldB (truN 3 (wD bs ts)) = true) : truN 3 (wD bs ts) = wD bs ts := by
  have e : truN 3 (wD bs ts) = .tup [truN 2 (rD bs), .tup ((ts.map rD).map (truN 1))] := rfl
  have e1 : truN 2 (.tup (ts.map rD)) = .tup ((ts.map rD).map (truN 1)) := rfl
  have e2 : ∀ l : List Int, truN 1 (rD l) = .tup ((l.map D.int).map (truN 0)) := fun l => rfl
  rw [e] at h ⊢
  simp only [truN2, isWorldB, areWordsB, Bool.and_eq_true] at h ⊢
  have rows : ∀ {l : List (List Int)}, ((l.map rD).map (truN 1)).all (areWordsB 16) = true → (l.map rD).map (truN 1) = l.map rD := by
    intro l
    induction l with
    | nil => intro _; rfl
    | cons r l ih =>
      intro h
      simp only [List.map_cons, List.all_cons, Bool.and_eq_true] at h
      rw [List.map_cons, List.map_cons, ih h.2, e2]
      have h1 := h.1
      rw [e2, areWordsB, Bool.and_eq_true] at h1
      rw [tru_row h1.2]
      rfl
  rw [tru_row h.1.2, rows h.2.2]
  rfl
/-! ### spoilt things -/
section
variable {L : Nat → Str → Fn} (hL : LK5 L) (k : Nat) (S : List SO)
include hL
theorem spoilt_ok {l m : List D} (hl : l.length ≤ 32) (hm : m.length ≤ 32) (pl : ∀ x ∈ l, plB x = true) (pm : ∀ x ∈ m, plB x = true) {n : Int} : ∃ o, L (k + 1) "_law_spoilt" [.tup [.tup l, .tup m], .int n] ⟨[], S⟩ = .ok o ⟨[], S⟩ ∧ plB o = true ∧ isWorldB o = false ∧ isHiddenB o = false ∧ ∀ m, look m o = o := by
  have z : ∀ j : Nat, j ≤ 100 → j ≤ sizeLine := fun j hj => by rw [sizeLine_eq]; omega
  have a2 : ∀ a b : D, atI [a, b] 0 = some a ∧ atI [a, b] 1 = some b := fun _ _ => ⟨rfl, rfl⟩
  have lc : ∀ a b, (cutD l a b).length ≤ 32 := fun a b => Nat.le_trans cut_len hl
  have pc : ∀ a b, ∀ x ∈ cutD l a b, plB x = true := fun a b x hx => pl x (cut_mem hx)
  have pt : plB (.tup l) = true := pl_tup.mpr ⟨by omega, pl⟩
  have pt' : plB (.tup m) = true := pl_tup.mpr ⟨by omega, pm⟩
  have pf : plB (.tup (.bl true :: cutD l (some 1) none)) = true := pl_tup.mpr ⟨by have := lc (some 1) none; simp; omega, fun x hx => by
    rcases List.mem_cons.mp hx with rfl | q
    · rfl
    · exact pc _ _ x q⟩
  have pl2 : ∀ l : List D, l.length ≤ 60 → (∀ x ∈ l, plB x = true) → plB (.tup l) = true := fun l h1 h2 => pl_tup.mpr ⟨h1, h2⟩
  have pml : plB (.lst m) = true := pl_lst.mpr ⟨by omega, pm⟩
  have pe : plB (.tup []) = true := by simp [plB, plsB]
  generalize hseven : [D.non, .lst [.tup l, .tup m], .tup [.tup (.bl true :: cutD l (some 1) none), .tup m], .tup [.tup l, .tup m, .tup []], .str "", .tup [.tup l], .tup [.tup l, .lst m]] = seven
  have at7 : ∃ o, atI seven (n / 3 % 7) = some o ∧ plB o = true ∧ isWorldB o = false ∧ isHiddenB o = false ∧ ∀ m, look m o = o := by
    subst hseven
    rcases (by omega : n / 3 % 7 = 0 ∨ n / 3 % 7 = 1 ∨ n / 3 % 7 = 2 ∨ n / 3 % 7 = 3 ∨ n / 3 % 7 = 4 ∨ n / 3 % 7 = 5 ∨ n / 3 % 7 = 6) with e | e | e | e | e | e | e <;> rw [e]
    · exact ⟨_, rfl, rfl, rfl, rfl, fun _ => rfl⟩
    · exact ⟨_, rfl, pl_lst.mpr ⟨by simp, by simp [pt, pt']⟩, rfl, rfl, fun _ => rfl⟩
    · exact ⟨_, rfl, pl2 _ (by simp) (by simp [pf, pt']), by simp [isWorldB, areWordsB, amongB], by cases m <;> simp [isHiddenB, risingB, amongB], fun _ => rfl⟩
    · exact ⟨_, rfl, pl2 _ (by simp) (by simp [pt, pt', pe]), rfl, rfl, fun _ => rfl⟩
    · exact ⟨_, rfl, by decide +kernel, rfl, rfl, fun _ => rfl⟩
    · exact ⟨_, rfl, pl2 _ (by simp) (by simp [pt]), rfl, rfl, fun _ => rfl⟩
    · exact ⟨_, rfl, pl2 _ (by simp) (by simp [pt, pml]), rfl, by simp [isHiddenB, risingB], fun _ => rfl⟩
  obtain ⟨o, ho, q⟩ := at7
  refine ⟨o, ?_, q⟩
  rw [hL.spo]
  have fin : evTs (L k) b__law_spoilt ⟨[.va (.tup [.tup l, .tup m]), .va (.int n), .un, .un], S⟩ = .ok (.rt o) ⟨[.va (.tup [.tup l, .tup m]), .va (.int n), .va (.tup (.bl true :: cutD l (some 1) none)), .own (.lst seven)], S⟩ := by
    unfold b__law_spoilt
    have ls : seven.length ≤ sizeLine := by rw [← hseven]; exact z _ (by simp)
    have q1 : 1 + (cutD l (some 1) none).length ≤ sizeLine := z _ (by have := lc (some 1) none; omega)
    rw [seq_nx (m' := ⟨[.va (.tup [.tup l, .tup m]), .va (.int n), .va (.tup (.bl true :: cutD l (some 1) none)), .un], S⟩) (by simp [a2, z, q1])]
    rw [seq_nx (m' := ⟨[.va (.tup [.tup l, .tup m]), .va (.int n), .va (.tup (.bl true :: cutD l (some 1) none)), .own (.lst seven)], S⟩) (by
      have c1 : cutD [D.tup l, .tup m] none (some 1) = [.tup l] := rfl
      simp [a2, z, c1, hseven, ls])]
    rw [seq_rt (d := o) (m' := ⟨[.va (.tup [.tup l, .tup m]), .va (.int n), .va (.tup (.bl true :: cutD l (some 1) none)), .own (.lst seven)], S⟩) (by simp [ho])]
  rw [body_rt (S := S) rfl fin, trunc_self]
end
end LB

namespace LB
open PySem L2 PyProof.Rows
section
variable {L : Nat → Str → Fn} (hW : LWorlds L) (hN : LNeed L) (hD' : LDiff L) (hL : LK5 L) (k : Nat) (S : List SO)
include hW hN hD' hL
theorem lawref (c w : Str) (h : (c, w) ∈ [(("BadHidden" : Str), ("hidden" : Str)), ("BadWorld", "world"), ("TooMany", "many")]) : L (k + 1) "_law_refusal" [.exo c] ⟨[], S⟩ = .ok (.str w) ⟨[], S⟩ := by
  rw [hL.ref]
  obtain ⟨r1, r2, r3⟩ := refusal_ok (L := L) hL S (L k)
  simp only [List.mem_cons, List.not_mem_nil, or_false, Prod.mk.injEq] at h
  rcases h with ⟨rfl, rfl⟩ | ⟨rfl, rfl⟩ | ⟨rfl, rfl⟩
  · exact r1
  · exact r2
  · exact r3
theorem dif_good {hb ht bs bs' : List Int} {ts ts' : List (List Int)} (hh : HOk hb ht) (h1 : WOk bs ts) (h2 : WOk bs' ts') : L (k + 7) "_law_differ" [hD hb ht, wD bs ts, wD bs' ts'] ⟨[], S⟩ = .ok (.bl (difB hb ht bs ts bs' ts')) ⟨[], S⟩ := by
  rw [hL.dif]
  unfold bodyF b__law_differ
  have d := differ_good hW hN hD' k S hh h1 h2
  simp [d, D.isN]
theorem dif_bad {d1 d2 d3 : D} (p1 : plB d1 = true) (p2 : plB d2 = true) (p3 : plB d3 = true) (h : (isHiddenB d1 && (isWorldB d2 && isWorldB d3)) = false) : L (k + 7) "_law_differ" [d1, d2, d3] ⟨[], S⟩ = .ok (.str (if isHiddenB d1 = true then "world" else "hidden")) ⟨[], S⟩ := by
  rw [hL.dif]
  unfold bodyF b__law_differ
  have d := differ_bad hW hN hD' k S p1 p2 p3 h
  have r1 := lawref hW hN hD' hL (k + 5) S "BadHidden" "hidden" (by decide +kernel)
  have r2 := lawref hW hN hD' hL (k + 5) S "BadWorld" "world" (by decide +kernel)
  have t1 : List.lookup ("BadHidden" : Str) [(("BadHidden" : Str), true), ("BadWorld", true), ("TooMany", true)] = some true := by decide +kernel
  have t2 : List.lookup ("BadWorld" : Str) [(("BadHidden" : Str), true), ("BadWorld", true), ("TooMany", true)] = some true := by decide +kernel
  cases e : isHiddenB d1
  · simp [e] at d
    simp [d, t1, D.isN, r1]
  · simp [e] at d
    simp [d, t2, D.isN, r2]
theorem wor_good {hb bs : List Int} {ts : List (List Int)} (hh : HOk hb []) (h1 : WOk bs ts) (h2 : hb.length ≤ 2) : L (k + 7) "_law_worlds" [wD bs ts, hD hb []] ⟨[], S⟩ = .ok (.ref S.length) ⟨[], S ++ [.ob (.lst ((worldsB bs hb).map fun b => wD b ts))]⟩ := by
  rw [hL.wor]
  unfold bodyF b__law_worlds
  have d := worlds_good hW hN hD' k S hh h1 h2
  simp [d, D.isN]
theorem wor_many {hb ht bs : List Int} {ts : List (List Int)} (hh : HOk hb ht) (h1 : WOk bs ts) (h2 : ¬ (hb.length ≤ 2 ∧ ht = [])) : L (k + 7) "_law_worlds" [wD bs ts, hD hb ht] ⟨[], S⟩ = .ok (.str "many") ⟨[], S⟩ := by
  rw [hL.wor]
  unfold bodyF b__law_worlds
  have d := worlds_many hW hN hD' k S hh h1 h2
  have r1 := lawref hW hN hD' hL (k + 5) S "TooMany" "many" (by decide +kernel)
  have t1 : List.lookup ("TooMany" : Str) [(("BadHidden" : Str), true), ("BadWorld", true), ("TooMany", true)] = some true := by decide +kernel
  simp [d, t1, D.isN, r1]
theorem wor_bad {d1 d2 : D} (p1 : plB d1 = true) (p2 : plB d2 = true) (h : (isWorldB d1 && isHiddenB d2) = false) : L (k + 7) "_law_worlds" [d1, d2] ⟨[], S⟩ = .ok (.str (if isWorldB d1 = true then "hidden" else "world")) ⟨[], S⟩ := by
  rw [hL.wor]
  unfold bodyF b__law_worlds
  have d := worlds_bad hW hN hD' k S p1 p2 h
  have r1 := lawref hW hN hD' hL (k + 5) S "BadHidden" "hidden" (by decide +kernel)
  have r2 := lawref hW hN hD' hL (k + 5) S "BadWorld" "world" (by decide +kernel)
  have t1 : List.lookup ("BadHidden" : Str) [(("BadHidden" : Str), true), ("BadWorld", true), ("TooMany", true)] = some true := by decide +kernel
  have t2 : List.lookup ("BadWorld" : Str) [(("BadHidden" : Str), true), ("BadWorld", true), ("TooMany", true)] = some true := by decide +kernel
  cases e : isWorldB d1
  · simp [e] at d
    simp [d, t2, D.isN, r2]
  · simp [e] at d
    simp [d, t1, D.isN, r1]
end
end LB

namespace LB
open PySem L2 PyProof.Rows
/-! ### another world -/
def lOb (l : List Int) : SO := .ob (.lst (l.map .int))
theorem low_ints (n : Nat) : ∀ l : List Int, D.lows n (l.map .int) = true
  | [] => rfl
  | i :: l => by simp [D.lows, D.low, low_ints n l]
theorem lOb_low (n : Nat) (l : List Int) : (lOb l).low n = true := low_ints n l
theorem WOk.setB {bs : List Int} {ts : List (List Int)} (h : WOk bs ts) (b : Nat) {v : Int} (h0 : 0 ≤ v) (h1 : v ≤ 15) : WOk (bs.set b v) ts :=
  ⟨by rw [List.length_set]; exact h.n, fun x hx => (List.mem_or_eq_of_mem_set hx).elim (h.b x) (fun e => by omega), h.m, h.l, h.t⟩
theorem WOk.setT {bs : List Int} {ts : List (List Int)} (h : WOk bs ts) (t c : Nat) (ht : t < 4) {v : Int} (h0 : 0 ≤ v) (h1 : v ≤ 15) : WOk bs (ts.set t ((ts.getD t []).set c v)) := by
  have hm : ts.getD t [] ∈ ts := by
    have lt : t < ts.length := by rw [h.m]; exact ht
    rw [List.getD_eq_getElem?_getD, List.getElem?_eq_getElem lt]
    exact List.getElem_mem lt
  refine ⟨h.n, h.b, by rw [List.length_set]; exact h.m, fun r hr => ?_, fun r hr x hx => ?_⟩
  · rcases List.mem_or_eq_of_mem_set hr with q | rfl
    · exact h.l r q
    · rw [List.length_set]; exact h.l _ hm
  · rcases List.mem_or_eq_of_mem_set hr with q | rfl
    · exact h.t r q x hx
    · rcases List.mem_or_eq_of_mem_set hx with q | rfl
      · exact h.t _ hm x q
      · omega
theorem four {α : Type} {l : List α} (h : l.length = 4) : ∃ a b c d, l = [a, b, c, d] := by
  match l, h with
  | [a, b, c, d], _ => exact ⟨a, b, c, d, rfl⟩
section
variable {L : Nat → Str → Fn} (hT : LTurn L) (hL : LK5 L) (k : Nat) (S : List SO)
include hT hL
theorem other_ok (hS : Low S) {hb ht bs : List Int} {ts : List (List Int)} {n : Int} (hh : HOk hb ht) (h1 : WOk bs ts) (hn : Dr n) : ∃ bs' ts', L (k + 2) "_law_other" [wD bs ts, hD hb ht, .int n] ⟨[], S⟩ = .ok (wD bs' ts') ⟨[], S⟩ ∧ WOk bs' ts' := by
  let rf : D := .lst [.ref (S.length + 1), .ref (S.length + 2), .ref (S.length + 3), .ref (S.length + 4)]
  let St : List Int → List (List Int) → List SO := fun bs ts => S ++ lOb bs :: ts.map lOb
  let E : List Int → List (List Int) → Mst := fun b t => ⟨[.va (wD bs ts), .va (hD hb ht), .va (.int n), .un, .va (.ref S.length), .va rf, .un, .un, .un, .un], St b t⟩
  have turn : ∀ (j : Nat), j < 4 → ∀ b t, WOk b t → ∃ b' t' ρ', WOk b' t' ∧ evTs (L (k + 1)) l1__law_other_v2 ⟨[.va (wD bs ts), .va (hD hb ht), .va (.int n), .un, .va (.ref S.length), .va rf, .va (.int (j : Int)), .un, .un, .un], St b t⟩ = .ok .nx ⟨ρ', St b' t'⟩ ∧ wipeR [6, 7, 8, 3, 9] ρ' = (E b' t').ρ := by
    intro j hj b t hw
    have tn := turned_ok hT k (St b t) hn (j := 1 + (j : Int)) (by omega) (by omega)
    generalize turnN n (1 + (j : Int)) = mo at tn
    have eqh : ∀ l : List Int, cmpD .eq (rD l) (.tup []) = some (decide (l = [])) := fun l => z_eqr l []
    have box : ∃ c : Nat, c < 32 ∧ (0 < mo / 3 % 3 ∧ hb ≠ [] → atI (hb.map D.int) (mo / 5 % (hb.length : Int)) = some (.int (c : Int))) ∧ (¬ (0 < mo / 3 % 3 ∧ hb ≠ []) → mo / 5 % 32 = (c : Int)) := by
      by_cases c : 0 < mo / 3 % 3 ∧ hb ≠ []
      · have lp : 0 < hb.length := List.length_pos_iff.mpr c.2
        obtain ⟨i, hi⟩ := Int.eq_ofNat_of_zero_le (Int.emod_nonneg (mo / 5) (show (hb.length : Int) ≠ 0 by omega))
        have li := Int.emod_lt_of_pos (mo / 5) (show (0 : Int) < hb.length by omega)
        rw [hi] at li
        have li' : i < hb.length := by omega
        have bd := hh.b (hb.getD i 0) (by rw [List.getD_eq_getElem?_getD, List.getElem?_eq_getElem li']; exact List.getElem_mem li')
        obtain ⟨c', hc'⟩ := Int.eq_ofNat_of_zero_le bd.1
        refine ⟨c', by omega, fun _ => ?_, fun z => absurd c z⟩
        rw [hi, atI_ints li', hc']
      · obtain ⟨c', hc'⟩ := Int.eq_ofNat_of_zero_le (Int.emod_nonneg (mo / 5) (show (32 : Int) ≠ 0 by omega))
        exact ⟨c', by omega, fun z => absurd z c, fun _ => hc'⟩
    have tab : ∃ c : Nat, c < 4 ∧ (0 < mo / 3 % 3 ∧ ht ≠ [] → atI (ht.map D.int) (mo / 7 % (ht.length : Int)) = some (.int (c : Int))) ∧ (¬ (0 < mo / 3 % 3 ∧ ht ≠ []) → mo / 7 % 4 = (c : Int)) := by
      by_cases c : 0 < mo / 3 % 3 ∧ ht ≠ []
      · have lp : 0 < ht.length := List.length_pos_iff.mpr c.2
        obtain ⟨i, hi⟩ := Int.eq_ofNat_of_zero_le (Int.emod_nonneg (mo / 7) (show (ht.length : Int) ≠ 0 by omega))
        have li := Int.emod_lt_of_pos (mo / 7) (show (0 : Int) < ht.length by omega)
        rw [hi] at li
        have li' : i < ht.length := by omega
        have bd := hh.t (ht.getD i 0) (by rw [List.getD_eq_getElem?_getD, List.getElem?_eq_getElem li']; exact List.getElem_mem li')
        obtain ⟨c', hc'⟩ := Int.eq_ofNat_of_zero_le bd.1
        refine ⟨c', by omega, fun _ => ?_, fun z => absurd c z⟩
        rw [hi, atI_ints li', hc']
      · obtain ⟨c', hc'⟩ := Int.eq_ofNat_of_zero_le (Int.emod_nonneg (mo / 7) (show (4 : Int) ≠ 0 by omega))
        exact ⟨c', by omega, fun z => absurd z c, fun _ => hc'⟩
    obtain ⟨bx, lbx, hbx1, hbx2⟩ := box
    obtain ⟨tb, ltb, htb1, htb2⟩ := tab
    obtain ⟨cl, hcl⟩ := Int.eq_ofNat_of_zero_le (Int.emod_nonneg (mo / 29) (show (16 : Int) ≠ 0 by omega))
    have lcl : cl < 16 := by omega
    have hlb : (hb.length : Int) < 1073741824 := by have := hh.bl; omega
    have hlt : (ht.length : Int) < 1073741824 := by have := hh.tl; omega
    have la : (wD bs ts) = wD bs ts := rfl
    unfold l1__law_other_v2
    rw [seq_nx (m' := ⟨[.va (wD bs ts), .va (hD hb ht), .va (.int n), .un, .va (.ref S.length), .va rf, .va (.int (j : Int)), .va (.int mo), .un, .un], St b t⟩) (by simp [tn])]
    rw [seq_nx (m' := ⟨[.va (wD bs ts), .va (hD hb ht), .va (.int n), .va (.int (mo / 7 % 4)), .va (.ref S.length), .va rf, .va (.int (j : Int)), .va (.int mo), .va (.int (mo / 5 % 32)), .va (.int (cl : Int))], St b t⟩) (by simp [hcl])]
    rw [seq_nx (m' := ⟨[.va (wD bs ts), .va (hD hb ht), .va (.int n), .va (.int (mo / 7 % 4)), .va (.ref S.length), .va rf, .va (.int (j : Int)), .va (.int mo), .va (.int (bx : Int)), .va (.int (cl : Int))], St b t⟩) (by
      by_cases c1 : 0 < mo / 3 % 3
      · by_cases c2 : hb = []
        · simp [c1, c2, eqh, hbx2 (fun z => z.2 c2)]
        · have p : (0 : Int) < hb.length := by have := List.length_pos_iff.mpr c2; omega
          have md : ∀ (x : Int) (m : Mst), bopMN .mod (.int x) (.int (hb.length : Int)) m = .ok (.int (x % (hb.length : Int))) m := fun x m => z_modi m _ _ p
          simp [c1, c2, eqh, rD_len, rD_ix, md, hbx1 ⟨c1, c2⟩]
      · simp [c1, hbx2 (fun z => c1 z.1)])]
    rw [seq_nx (m' := ⟨[.va (wD bs ts), .va (hD hb ht), .va (.int n), .va (.int (tb : Int)), .va (.ref S.length), .va rf, .va (.int (j : Int)), .va (.int mo), .va (.int (bx : Int)), .va (.int (cl : Int))], St b t⟩) (by
      by_cases c1 : 0 < mo / 3 % 3
      · by_cases c2 : ht = []
        · simp [c1, c2, eqh, htb2 (fun z => z.2 c2)]
        · have p : (0 : Int) < ht.length := by have := List.length_pos_iff.mpr c2; omega
          have md : ∀ (x : Int) (m : Mst), bopMN .mod (.int x) (.int (ht.length : Int)) m = .ok (.int (x % (ht.length : Int))) m := fun x m => z_modi m _ _ p
          simp [c1, c2, eqh, rD_len, rD_ix, md, htb1 ⟨c1, c2⟩]
      · simp [c1, htb2 (fun z => c1 z.1)])]
    have lb : bx < b.length := by rw [hw.n]; exact lbx
    have lt : tb < t.length := by rw [hw.m]; exact ltb
    have lr : cl < (t.getD tb []).length := by
      rw [hw.l _ (by rw [List.getD_eq_getElem?_getD, List.getElem?_eq_getElem lt]; exact List.getElem_mem lt)]; exact lcl
    by_cases c3 : 0 < mo / 500 % 3
    · refine ⟨b.set bx ((b.getD bx 0 + 1 + mo / 1500 % 15) % 16), t, [.va (wD bs ts), .va (hD hb ht), .va (.int n), .va (.int (tb : Int)), .va (.ref S.length), .va rf, .va (.int (j : Int)), .va (.int mo), .va (.int (bx : Int)), .va (.int (cl : Int))], hw.setB bx (by omega) (by omega), ?_, ?_⟩
      · rw [seq_nx (m' := ⟨[.va (wD bs ts), .va (hD hb ht), .va (.int n), .va (.int (tb : Int)), .va (.ref S.length), .va rf, .va (.int (j : Int)), .va (.int mo), .va (.int (bx : Int)), .va (.int (cl : Int))], St (b.set bx ((b.getD bx 0 + 1 + mo / 1500 % 15) % 16)) t⟩) (by
          simp [c3, St, lOb, atI_ints lb, ixN_at lb])]
        rfl
      · rfl
    · refine ⟨b, t.set tb ((t.getD tb []).set cl (((t.getD tb []).getD cl 0 + 1 + mo / 1500 % 15) % 16)), [.va (wD bs ts), .va (hD hb ht), .va (.int n), .va (.int (tb : Int)), .va (.ref S.length), .va rf, .va (.int (j : Int)), .va (.int mo), .va (.int (bx : Int)), .va (.int (cl : Int))], hw.setT tb cl ltb (by omega) (by omega), ?_, ?_⟩
      · have r1 : atI [D.ref (S.length + 1), .ref (S.length + 2), .ref (S.length + 3), .ref (S.length + 4)] (tb : Int) = some (.ref (S.length + (tb + 1))) := by
          rcases (by omega : tb = 0 ∨ tb = 1 ∨ tb = 2 ∨ tb = 3) with rfl | rfl | rfl | rfl <;> rfl
        have r2 : t[tb]? = some (t.getD tb []) := by simp [List.getD_eq_getElem?_getD, lt]
        generalize t.getD tb [] = row at r2 lr ⊢
        have gd : row.getD cl 0 = row.getD cl 0 := rfl
        have a9 : atI (row.map D.int) (cl : Int) = some (.int (row.getD cl 0)) := atI_ints lr
        generalize row.getD cl 0 = cv at a9 ⊢
        rw [seq_nx (m' := ⟨[.va (wD bs ts), .va (hD hb ht), .va (.int n), .va (.int (tb : Int)), .va (.ref S.length), .va rf, .va (.int (j : Int)), .va (.int mo), .va (.int (bx : Int)), .va (.int (cl : Int))], St b (t.set tb (row.set cl ((cv + 1 + mo / 1500 % 15) % 16)))⟩) (by
          simp only [St, rf]
          simp [c3, r1, r2, lOb, a9, ixN_at lr])]
        rfl
      · rfl
  have fin : ∃ b' t' ρ', WOk b' t' ∧ evTs (L (k + 1)) b__law_other_v2 ⟨[.va (wD bs ts), .va (hD hb ht), .va (.int n), .un, .un, .un, .un, .un, .un, .un], S⟩ = .ok (.rt (wD b' t')) ⟨ρ', St b' t'⟩ := by
    obtain ⟨t0, t1, t2, t3, rfl⟩ := four h1.m
    have z : ∀ j : Nat, j ≤ 100 → j ≤ sizeLine := fun j hj => by rw [sizeLine_eq]; omega
    have zl : ∀ j : Nat, j ≤ 100 → j < sizeLine := fun j hj => by rw [sizeLine_eq]; omega
    have hp : ∃ m', forL [6, 7, 8, 3, 9] (.nm 6) (evTs (L (k + 1)) l1__law_other_v2) ((List.range (n / 3 % 4).toNat).map fun (j : Nat) => D.int (j : Int)) (E bs [t0, t1, t2, t3]) = .ok .nx m' ∧ ∃ b' t', WOk b' t' ∧ m' = E b' t' := by
      refine forL_rel (g := fun (j : Nat) => D.int (j : Int)) (R := fun (_ : Unit) m => ∃ b' t', WOk b' t' ∧ m = E b' t') (fun s _ => s) (s := ()) (fun s j m hj ⟨b, t, hw, e⟩ => ?_) ⟨bs, _, h1, rfl⟩
      subst e
      have lj : j < 4 := by have := List.mem_range.mp hj; omega
      obtain ⟨b', t', ρ', hw', e1, e2⟩ := turn j lj b t hw
      refine ⟨_, ⟨ρ', St b' t'⟩, rfl, e1, b', t', hw', ?_⟩
      show (⟨wipeR [6, 7, 8, 3, 9] ρ', St b' t'⟩ : Mst) = _
      rw [e2]
    obtain ⟨m', e, b', t', hw, rfl⟩ := hp
    obtain ⟨u0, u1, u2, u3, rfl⟩ := four hw.m
    have s0 : evT (L (k + 1)) (.par [4, 5] (.cons (.al (.list (.ix (.v 0) (.k (.int 0))))) (.cons (.nw c1__law_other_v2) .nil))) ⟨[.va (wD bs [t0, t1, t2, t3]), .va (hD hb ht), .va (.int n), .un, .un, .un, .un, .un, .un, .un], S⟩ = .ok .nx (E bs [t0, t1, t2, t3]) := by
      simp [Sl.isOwn, rD_list, c1__law_other_v2, z_nlc, lcM, mayWipe, lcL_cons, lcL_nil, zl, Tg.slots, E, St, rf, lOb, restR, z]
    obtain ⟨j, hj⟩ := Int.eq_ofNat_of_zero_le (Int.emod_nonneg (n / 3) (show (4 : Int) ≠ 0 by omega))
    rw [hj, Int.toNat_natCast] at e
    unfold b__law_other_v2
    rw [seq_nx s0, seq_nx (for_nx (evS_rng (j := j) (by simp [E, hj]) (by omega)) e)]
    refine ⟨b', [u0, u1, u2, u3], (E b' [u0, u1, u2, u3]).ρ, hw, ?_⟩
    rw [seq_rt (d := wD b' [u0, u1, u2, u3]) (m' := E b' [u0, u1, u2, u3]) (by
      simp [Sl.isOwn, rD_list, c2__law_other_v2, z_nlc, lcM, mayWipe, lcL_cons, lcL_nil, zl, Tg.slots, E, St, rf, lOb, restR, z]
      rfl)]
  obtain ⟨b', t', ρ', hw, fin⟩ := fin
  refine ⟨b', t', ?_, hw⟩
  rw [hL.other, body_rt (S := S) rfl fin]
  have lowd : D.lows S.length [wD b' t'] = true := by
    have rows : ∀ l : List (List Int), D.lows S.length (l.map rD) = true := fun l => by
      induction l with
      | nil => rfl
      | cons a l ih => simp [D.lows, rD, D.low, low_ints, ih]
    simp [D.lows, wD, D.low, rD, low_ints]
    exact rows t'
  rw [hS.trunc lowd]
end
end LB

namespace LB
open PySem L2 PyProof.Rows
theorem thing_rep {d : D} (h : Thing d) : ∃ t, repD d = some t ∧ repD (truN 3 d) = repD (truN 3 d) ∧ PyData.strOk t = true := by
  have q := dee_tiny 3 h.dee
  exact ⟨_, (q.2 true).rep (by omega) (by decide), rfl, (q.2 true).txt⟩
theorem thing_rep2 {d : D} (h : Thing d) : plB (truN 3 d) = true ∧ ∃ t, repD (truN 3 d) = some t ∧ PyData.strOk t = true := by
  have q := truN_tiny 3 h.dee
  exact ⟨q.1, _, (q.2 true).rep (by omega) (by decide), (q.2 true).txt⟩
/-- whether the repr of a twin is another one -/
def newB (d : D) : Bool := decide (repD (truN 3 d) ≠ repD d)
theorem new_ne {d : D} (h : newB d = true) : truN 3 d ≠ d := fun e => by simp [newB, e] at h
theorem four_rep (b : Bool) (s : Str) (hs : s = "hidden") : ∃ t, repD (.lst [.bl b, .str s, .str "world", .str "world"]) = some t ∧ cmpD .eq (.str t) (.str t) = some true := by
  subst hs
  have q : Tm true 1 60 (.lst [.bl b, .str "hidden", .str "world", .str "world"]) := by
    cases b
    · exact tm_lit true (by decide +kernel) (by decide +kernel) (by decide +kernel) (by decide +kernel) (by decide +kernel)
    · exact tm_lit true (by decide +kernel) (by decide +kernel) (by decide +kernel) (by decide +kernel) (by decide +kernel)
  exact ⟨_, q.rep (by omega) (by omega), q.str_same⟩
theorem bl_rep (b : Bool) : ∃ t, repD (.bl b) = some t ∧ cmpD .eq (.str t) (.str t) = some true := ⟨_, (tm_bl true b).rep (by omega) (by omega), (tm_bl true b).str_same⟩
theorem st_rep (s : Str) (h : s = "hidden" ∨ s = "world") : ∃ t, repD (.str s) = some t ∧ cmpD .eq (.str t) (.str t) = some true := by
  have q : Tm true 0 10 (.str s) := by
    rcases h with rfl | rfl
    · exact tm_lit true (by decide +kernel) (by decide +kernel) (by decide +kernel) (by decide +kernel) (by decide +kernel)
    · exact tm_lit true (by decide +kernel) (by decide +kernel) (by decide +kernel) (by decide +kernel) (by decide +kernel)
  exact ⟨_, q.rep (by omega) (by omega), q.str_same⟩
theorem worlds_low (n : Nat) (l : List (List Int)) (ts : List (List Int)) : D.lows n (l.map fun b => wD b ts) = true := by
  have rows : ∀ l : List (List Int), D.lows n (l.map rD) = true := fun l => by
    induction l with
    | nil => rfl
    | cons a l ih => simp [D.lows, rD, D.low, low_ints, ih]
  induction l with
  | nil => rfl
  | cons a l ih =>
    rw [List.map_cons, D.lows, ih, Bool.and_true]
    simp only [wD, rD, D.low, D.lows, low_ints, rows ts, Bool.and_self, Bool.and_true]
section
variable {L : Nat → Str → Fn} (hW : LWorlds L) (hN : LNeed L) (hD' : LDiff L) (hL : LK5 L) (k : Nat) (S : List SO)
theorem truths5 (hL : LK5 L) (k : Nat) (S : List SO) : ∀ (n : Nat) {d : D}, Dee n d → L (k + n + 1) "_law_truths" [d] ⟨[], S⟩ = .ok (truN n d) ⟨[], S⟩
  | n, d, h => by
    have cell : ∀ k, Cell d → L (k + 1) "_law_truths" [d] ⟨[], S⟩ = .ok (truI d) ⟨[], S⟩ := fun k h => by
      obtain ⟨i, rfl, h1, h2⟩ := h
      rw [hL.tru]
      unfold bodyF b__law_truths
      by_cases c : i < 2 <;> simp [truI, c]
    match n, h with
    | 0, h => exact cell _ h
    | n + 1, .inl h =>
      rw [cell _ h]
      obtain ⟨i, rfl, _⟩ := h
      rfl
    | n + 1, .inr ⟨l, e, hl, hx⟩ =>
      subst e
      rw [hL.tru]
      unfold bodyF b__law_truths
      have c : evN (L (k + (n + 1))) c1__law_truths ⟨[.va (.tup l), .un], S⟩ = .ok (.lst (l.map (truN n))) ⟨[.va (.tup l), .un], S⟩ := by
        unfold c1__law_truths
        refine lc_map (fun x => [.va (.tup l), .va x]) (by simp) rfl (by simp [Tg.slots]) (fun x _ => by simp) (fun x _ => by simp) (fun x hx' => ?_) (by rw [sizeLine_eq]; omega)
        have := truths5 hL k S n (hx x hx')
        rw [show k + (n + 1) = k + n + 1 by omega]
        simp [this]
      simp [c, truN]
include hW hN hD' hL
theorem twins_ok (hS : Low S) {hb ht bs bs' : List Int} {ts ts' : List (List Int)} (hh : HOk hb ht) (h1 : WOk bs ts) (h2 : WOk bs' ts') : L (k + 8) "_law_twins_are" [hD hb ht, wD bs ts, wD bs' ts'] ⟨[], S⟩ = .ok (.bl true) ⟨[], S⟩ := by
  have z : ∀ j : Nat, j ≤ 100 → j ≤ sizeLine := fun j hj => by rw [sizeLine_eq]; omega
  have zl : ∀ j : Nat, j ≤ 100 → j < sizeLine := fun j hj => by rw [sizeLine_eq]; omega
  have T0 := truths5 hL (k + 3) S 3 hh.thing.dee
  have T1 := truths5 hL (k + 3) S 3 h1.thing.dee
  have T2 := truths5 hL (k + 3) S 3 h2.thing.dee
  obtain ⟨p0, r0, hr0, sr0⟩ := thing_rep2 hh.thing
  obtain ⟨p1, r1, hr1, sr1⟩ := thing_rep2 h1.thing
  obtain ⟨p2, r2, hr2, sr2⟩ := thing_rep2 h2.thing
  obtain ⟨q0, hq0, _, sq0⟩ := thing_rep hh.thing
  obtain ⟨q1, hq1, _, sq1⟩ := thing_rep h1.thing
  obtain ⟨q2, hq2, _, sq2⟩ := thing_rep h2.thing
  have b0 : newB (hD hb ht) = true → isHiddenB (truN 3 (hD hb ht)) = false := fun e => by
    cases c : isHiddenB (truN 3 (hD hb ht))
    · rfl
    · exact absurd (twin_h c) (new_ne e)
  have b1 : newB (wD bs ts) = true → isWorldB (truN 3 (wD bs ts)) = false := fun e => by
    cases c : isWorldB (truN 3 (wD bs ts))
    · rfl
    · exact absurd (twin_w c) (new_ne e)
  have b2 : newB (wD bs' ts') = true → isWorldB (truN 3 (wD bs' ts')) = false := fun e => by
    cases c : isWorldB (truN 3 (wD bs' ts'))
    · rfl
    · exact absurd (twin_w c) (new_ne e)
  have n0 : newB (hD hb ht) = decide (r0 ≠ q0) := by simp [newB, hr0, hq0]
  have n1 : newB (wD bs ts) = decide (r1 ≠ q1) := by simp [newB, hr1, hq1]
  have n2 : newB (wD bs' ts') = decide (r2 ≠ q2) := by simp [newB, hr2, hq2]
  have g := dif_good hW hN hD' hL k S hh h1 h2
  have du := due_ok hL (k + 6) S (hb := hb) (ht := ht) h1 h2
  have d0 : newB (hD hb ht) = true → L (k + 7) "_law_differ" [truN 3 (hD hb ht), wD bs ts, wD bs' ts'] ⟨[], S⟩ = .ok (.str "hidden") ⟨[], S⟩ := fun e => by
    have := dif_bad hW hN hD' hL k S p0 h1.pl h2.pl (by rw [b0 e]; rfl)
    rw [b0 e] at this
    exact this
  have d1 : newB (wD bs ts) = true → L (k + 7) "_law_differ" [hD hb ht, truN 3 (wD bs ts), wD bs' ts'] ⟨[], S⟩ = .ok (.str "world") ⟨[], S⟩ := fun e => by
    have := dif_bad hW hN hD' hL k S hh.pl p1 h2.pl (by rw [b1 e, hh.is]; rfl)
    rw [hh.is] at this
    exact this
  have d2 : newB (wD bs' ts') = true → L (k + 7) "_law_differ" [hD hb ht, wD bs ts, truN 3 (wD bs' ts')] ⟨[], S⟩ = .ok (.str "world") ⟨[], S⟩ := fun e => by
    have := dif_bad hW hN hD' hL k S hh.pl h1.pl p2 (by rw [b2 e, hh.is, h1.is]; rfl)
    rw [hh.is] at this
    exact this
  have w : ∃ d T, L (k + 7) "_law_worlds" [wD bs ts, hD hb ht] ⟨[], S⟩ = .ok d ⟨[], S ++ T⟩ ∧ ∀ o ∈ T, ∀ n, SO.low n o = true := by
    by_cases c : hb.length ≤ 2 ∧ ht = []
    · obtain ⟨c1, rfl⟩ := c
      exact ⟨_, _, wor_good hW hN hD' hL k S hh h1 c1, fun o ho n => by
        rw [List.mem_singleton] at ho
        subst ho
        exact worlds_low n _ _⟩
    · exact ⟨.str "many", [], by rw [wor_many hW hN hD' hL k S hh h1 c, List.append_nil], fun o ho => by simp at ho⟩
  obtain ⟨wd, T, hw, lT⟩ := w
  have w0 : newB (hD hb ht) = true → L (k + 7) "_law_worlds" [wD bs ts, truN 3 (hD hb ht)] ⟨[], S ++ T⟩ = .ok (.str "hidden") ⟨[], S ++ T⟩ := fun e => by
    have := wor_bad hW hN hD' hL k (S ++ T) h1.pl p0 (by rw [b0 e, h1.is]; rfl)
    rw [h1.is] at this
    exact this
  have w1 : newB (wD bs ts) = true → L (k + 7) "_law_worlds" [truN 3 (wD bs ts), hD hb ht] ⟨[], S ++ T⟩ = .ok (.str "world") ⟨[], S ++ T⟩ := fun e => by
    have := wor_bad hW hN hD' hL k (S ++ T) p1 hh.pl (by rw [b1 e]; rfl)
    rw [b1 e] at this
    exact this
  have a3 : ∀ a b c : D, atI [a, b, c] 0 = some a ∧ atI [a, b, c] 1 = some b ∧ atI [a, b, c] 2 = some c := fun _ _ _ => ⟨rfl, rfl, rfl⟩
  generalize hA : hD hb ht = A at *
  generalize hB : wD bs ts = B at *
  generalize hC : wD bs' ts' = C at *
  have lA : ∀ m, look m A = A := fun m => by rw [← hA]; rfl
  have lB : ∀ m, look m B = B := fun m => by rw [← hB]; rfl
  have lC : ∀ m, look m C = C := fun m => by rw [← hC]; rfl
  have tl : ∀ (d : D) (m : Mst), Thing d → look m (truN 3 d) = truN 3 d := fun d m h => by
    obtain ⟨l, rfl, _⟩ := h
    rfl
  have lA' := fun m => tl A m (hA ▸ hh.thing)
  have lB' := fun m => tl B m (hB ▸ h1.thing)
  have lC' := fun m => tl C m (hC ▸ h2.thing)
  generalize truN 3 A = A' at *
  generalize truN 3 B = B' at *
  generalize truN 3 C = C' at *
  generalize difB hb ht bs ts bs' ts' = q at *
  obtain ⟨fr, hfr, hfe⟩ := four_rep q "hidden" rfl
  have c1 : evN (L (k + 7)) c1__law_twins_are ⟨[.va A, .va B, .va C, .un, .un, .un, .un, .un, .un], S⟩ = .ok (.lst [A', B', C']) ⟨[.va A, .va B, .va C, .un, .un, .un, .un, .un, .un], S⟩ := by
    simp [c1__law_twins_are, z_nlc, lcM, mayWipe, lcL_cons, lcL_nil, zl, Tg.slots, restR, z, Sl.isOwn, T0, T1, T2]
  have c2 : evN (L (k + 7)) c2__law_twins_are ⟨[.va A, .va B, .va C, .own (.lst [A', B', C']), .un, .un, .un, .un, .un], S⟩ = .ok (.lst [.bl (newB A), .bl (newB B), .bl (newB C)]) ⟨[.va A, .va B, .va C, .va (.lst [A', B', C']), .un, .un, .un, .un, .un], S⟩ := by
    simp [c2__law_twins_are, z_nlc, lcM, mayWipe, lcL_cons, lcL_nil, zl, Tg.slots, Tgs.slots, restR, z, Sl.isOwn, zipF, lA, lB, lC, lA', lB', lC', hr0, hr1, hr2, hq0, hq1, hq2, z_eqs _ _ sr0 sq0, z_eqs _ _ sr1 sq1, z_eqs _ _ sr2 sq2, n0, n1, n2]
  have e1 : cmpD .eq (.str "hidden") (.str "hidden") = some true := by decide +kernel
  have e2 : cmpD .eq (.str "world") (.str "world") = some true := by decide +kernel
  clear n0 n1 n2
  generalize newB A = bA at *
  generalize newB B = bB at *
  generalize newB C = bC at *
  have fin : ∃ ρ', evTs (L (k + 7)) b__law_twins_are ⟨[.va A, .va B, .va C, .un, .un, .un, .un, .un, .un], S⟩ = .ok (.rt (.bl true)) ⟨ρ', S ++ T⟩ := by
    unfold b__law_twins_are
    rw [seq_nx (m' := ⟨[.va A, .va B, .va C, .own (.lst [A', B', C']), .un, .un, .un, .un, .un], S⟩) (by simp [c1])]
    rw [seq_nx (m' := ⟨[.va A, .va B, .va C, .va (.lst [A', B', C']), .own (.lst [.bl bA, .bl bB, .bl bC]), .un, .un, .un, .un], S⟩) (by simp [c2])]
    rw [seq_nx (m' := ⟨[.va A, .va B, .va C, .va (.lst [A', B', C']), .own (.lst [.bl bA, .bl bB, .bl bC]), .own (.lst [.bl q, .str "hidden", .str "world", .str "world"]), .un, .un, .un], S⟩) (by simp [du, z])]
    rw [seq_nx (m' := ⟨[.va A, .va B, .va C, .va (.lst [A', B', C']), .own (.lst [.bl bA, .bl bB, .bl bC]), .own (.lst [.bl q, .str "hidden", .str "world", .str "world"]), .own (.lst [.bl q, .str "hidden"]), .un, .un], S⟩) (by cases bA <;> simp [g, a3, z, d0])]
    rw [seq_nx (m' := ⟨[.va A, .va B, .va C, .va (.lst [A', B', C']), .own (.lst [.bl bA, .bl bB, .bl bC]), .own (.lst [.bl q, .str "hidden", .str "world", .str "world"]), .own (.lst [.bl q, .str "hidden", .str "world"]), .un, .un], S⟩) (by cases bB <;> simp [g, a3, zl, d1])]
    rw [seq_nx (m' := ⟨[.va A, .va B, .va C, .va (.lst [A', B', C']), .own (.lst [.bl bA, .bl bB, .bl bC]), .own (.lst [.bl q, .str "hidden", .str "world", .str "world"]), .own (.lst [.bl q, .str "hidden", .str "world", .str "world"]), .un, .un], S⟩) (by cases bC <;> simp [g, a3, zl, d2])]
    rw [seq_nx (m' := ⟨[.va A, .va B, .va C, .va (.lst [A', B', C']), .own (.lst [.bl bA, .bl bB, .bl bC]), .own (.lst [.bl q, .str "hidden", .str "world", .str "world"]), .own (.lst [.bl q, .str "hidden", .str "world", .str "world"]), .un, .un], S⟩) (by simp [hfr, hfe])]
    rw [seq_nx (m' := ⟨[.va A, .va B, .va C, .va (.lst [A', B', C']), .own (.lst [.bl bA, .bl bB, .bl bC]), .own (.lst [.bl q, .str "hidden", .str "world", .str "world"]), .own (.lst [.bl q, .str "hidden", .str "world", .str "world"]), .un, .un], S ++ T⟩) (by simp [hw])]
    rw [seq_nx (m' := ⟨[.va A, .va B, .va C, .va (.lst [A', B', C']), .own (.lst [.bl bA, .bl bB, .bl bC]), .own (.lst [.bl q, .str "hidden", .str "world", .str "world"]), .own (.lst [.bl q, .str "hidden", .str "world", .str "world"]), .un, .un], S ++ T⟩) (by cases bA <;> simp [a3, w0, e1])]
    exact ⟨_, seq_rt (m' := ⟨[.va A, .va B, .va C, .va (.lst [A', B', C']), .own (.lst [.bl bA, .bl bB, .bl bC]), .own (.lst [.bl q, .str "hidden", .str "world", .str "world"]), .own (.lst [.bl q, .str "hidden", .str "world", .str "world"]), .un, .un], S ++ T⟩) (by cases bB <;> simp [a3, w1, e2])⟩
  obtain ⟨ρ', fin⟩ := fin
  rw [hL.twi, body_rt (S := S) rfl fin, hS.trunc (by simp [D.lows, D.low])]
end
end LB

namespace LB
open PySem L2 PyProof.Rows
theorem expand_ok {ts : List (List Int)} {f : List (List Int)} {box : Int} (h : ∀ b ∈ f, WOk b ts) : ∀ b ∈ expand f box, WOk b ts := fun b hb => by
  obtain ⟨y, hy, hb⟩ := List.mem_flatMap.mp hb
  obtain ⟨w, hw, rfl⟩ := List.mem_map.mp hb
  have := List.mem_range.mp hw
  exact (h y hy).setB _ (by omega) (by omega)
theorem worlds_ok {ts : List (List Int)} : ∀ {hb : List Int} {f : List (List Int)}, (∀ b ∈ f, WOk b ts) → ∀ b ∈ hb.foldl expand f, WOk b ts
  | [], f, h => h
  | x :: hb, f, h => worlds_ok (hb := hb) (expand_ok h)
theorem eq_worlds {bs hb : List Int} {ts : List (List Int)} (h : WOk bs ts) : cmpD .eq (.lst ((worldsB bs hb).map fun b => wD b ts)) (.lst ((worldsB bs hb).map fun b => wD b ts)) = some true := by
  have all : ∀ b ∈ worldsB bs hb, WOk b ts := worlds_ok (by simpa using h)
  have q : TmAll true 3 (BB 3) ((worldsB bs hb).map fun b => wD b ts) := fun d hd => by
    obtain ⟨b, hb', rfl⟩ := List.mem_map.mp hd
    exact (dee_tiny 3 (all b hb').thing.dee).2 true
  exact (Tm.lst q (Nat.le_refl _)).eq_same (by omega)
/-- what the law holds for due of all worlds -/
def manyD (hb ht bs : List Int) (ts : List (List Int)) : D := if hb.length ≤ 2 ∧ ht = [] then .lst ((worldsB bs hb).map fun b => wD b ts) else .str "many"
section
variable {L : Nat → Str → Fn} (hT : LTurn L) (hW : LWorlds L) (hN : LNeed L) (hD' : LDiff L) (hL : LK5 L) (k : Nat) (S : List SO)
include hT hW hN hD' hL
theorem wor_all {hb ht bs : List Int} {ts : List (List Int)} (hh : HOk hb ht) (h1 : WOk bs ts) : ∃ d T, L (k + 7) "_law_worlds" [wD bs ts, hD hb ht] ⟨[], S⟩ = .ok d ⟨[], S ++ T⟩ ∧ (∀ o ∈ T, ∀ n, SO.low n o = true) ∧ ∀ ρ, cmpD .eq (look ⟨ρ, S ++ T⟩ d) (manyD hb ht bs ts) = some true := by
  by_cases c : hb.length ≤ 2 ∧ ht = []
  · obtain ⟨c1, rfl⟩ := c
    refine ⟨_, _, wor_good hW hN hD' hL k S hh h1 c1, fun o ho n => ?_, fun ρ => ?_⟩
    · rw [List.mem_singleton] at ho
      subst ho
      exact worlds_low n _ _
    · simp only [z_lref, get_app0, List.getElem?_cons_zero, z_obl, manyD, c1, and_self, if_true]
      exact eq_worlds h1
  · refine ⟨.str "many", [], by rw [wor_many hW hN hD' hL k S hh h1 c, List.append_nil], fun o ho => by simp at ho, fun ρ => ?_⟩
    rw [manyD, if_neg c, z_lstr]
    decide +kernel
theorem spa_ok (hS : Low S) {hb ht bs bs' : List Int} {ts ts' : List (List Int)} (hh : HOk hb ht) (h1 : WOk bs ts) (h2 : WOk bs' ts') {n : Int} (hn : Dr n) : L (k + 8) "_law_spoilt_are" [hD hb ht, wD bs ts, wD bs' ts', manyD hb ht bs ts, .int n] ⟨[], S⟩ = .ok (.bl true) ⟨[], S⟩ := by
  have z : ∀ j : Nat, j ≤ 100 → j ≤ sizeLine := fun j hj => by rw [sizeLine_eq]; omega
  have zl : ∀ j : Nat, j ≤ 100 → j < sizeLine := fun j hj => by rw [sizeLine_eq]; omega
  have t3 := turned_ok hT (k + 6) S hn (j := 3) (by omega) (by omega)
  have t4 : ∀ i : Nat, i < 3 → L (k + 7) "_law_turned" [.int n, .int (4 + (i : Int))] ⟨[], S⟩ = .ok (.int (turnN n (4 + (i : Int)))) ⟨[], S⟩ := fun i hi => turned_ok hT (k + 6) S hn (j := 4 + (i : Int)) (by omega) (by omega)
  generalize turnN n 3 = mo at t3
  have rows : ∀ l : List Int, (∀ x ∈ l.map D.int, plB x = true) := fun l x hx => by
    obtain ⟨i, _, rfl⟩ := List.mem_map.mp hx
    rfl
  have rows2 : ∀ t : List (List Int), (∀ r ∈ t, r.length = 16) → (∀ x ∈ t.map rD, plB x = true) := fun t ht' x hx => by
    obtain ⟨i, hi, rfl⟩ := List.mem_map.mp hx
    exact pl_row (by rw [ht' i hi]; omega)
  obtain ⟨x0, s0, px0, _, ix0, lx0⟩ := spoilt_ok hL (k + 6) S (l := hb.map .int) (m := ht.map .int) (by rw [List.length_map]; exact hh.bl) (by rw [List.length_map]; have := hh.tl; omega) (rows _) (rows _) (n := turnN n (4 + ((0 : Nat) : Int)))
  obtain ⟨x1, s1, px1, ix1, _, lx1⟩ := spoilt_ok hL (k + 6) S (l := bs.map .int) (m := ts.map rD) (by rw [List.length_map, h1.n]; omega) (by rw [List.length_map, h1.m]; omega) (rows _) (rows2 _ h1.l) (n := turnN n (4 + ((1 : Nat) : Int)))
  obtain ⟨x2, s2, px2, ix2, _, lx2⟩ := spoilt_ok hL (k + 6) S (l := bs'.map .int) (m := ts'.map rD) (by rw [List.length_map, h2.n]; omega) (by rw [List.length_map, h2.m]; omega) (rows _) (rows2 _ h2.l) (n := turnN n (4 + ((2 : Nat) : Int)))
  have t40 := t4 0 (by omega)
  have t41 := t4 1 (by omega)
  have t42 := t4 2 (by omega)
  generalize turnN n (4 + ((0 : Nat) : Int)) = m0 at *
  generalize turnN n (4 + ((1 : Nat) : Int)) = m1 at *
  generalize turnN n (4 + ((2 : Nat) : Int)) = m2 at *
  change L (k + 7) "_law_spoilt" [hD hb ht, .int m0] _ = _ at s0
  change L (k + 7) "_law_spoilt" [wD bs ts, .int m1] _ = _ at s1
  change L (k + 7) "_law_spoilt" [wD bs' ts', .int m2] _ = _ at s2
  simp only [Int.natCast_zero, Int.natCast_one, Int.reduceAdd, Int.cast_ofNat_Int, Int.add_zero] at t40 t41 t42
  have du := due_ok hL (k + 6) S (hb := hb) (ht := ht) h1 h2
  -- what is handed in, spoilt or not
  let y0 : Bool → D := fun b => if b then x0 else hD hb ht
  let y1 : Bool → D := fun b => if b then x1 else wD bs ts
  let y2 : Bool → D := fun b => if b then x2 else wD bs' ts'
  generalize hb0 : decide (mo / 2 % 3 = 0) = b0
  generalize hb1 : decide (mo / 7 % 3 = 0) = b1
  generalize hb2 : decide (mo / 23 % 3 = 0) = b2
  have Y0 : plB (y0 b0) = true ∧ isHiddenB (y0 b0) = !b0 := by cases b0; exact ⟨hh.pl, hh.is⟩; exact ⟨px0, ix0⟩
  have Y1 : plB (y1 b1) = true ∧ isWorldB (y1 b1) = !b1 := by cases b1; exact ⟨h1.pl, h1.is⟩; exact ⟨px1, ix1⟩
  have Y2 : plB (y2 b2) = true ∧ isWorldB (y2 b2) = !b2 := by cases b2; exact ⟨h2.pl, h2.is⟩; exact ⟨px2, ix2⟩
  have dif : L (k + 7) "_law_differ" [y0 b0, y1 b1, y2 b2] ⟨[], S⟩ = .ok (if b0 then .str "hidden" else if b1 || b2 then .str "world" else .bl (difB hb ht bs ts bs' ts')) ⟨[], S⟩ := by
    by_cases c : b0 = false ∧ b1 = false ∧ b2 = false
    · obtain ⟨rfl, rfl, rfl⟩ := c
      exact dif_good hW hN hD' hL k S hh h1 h2
    · rw [dif_bad hW hN hD' hL k S Y0.1 Y1.1 Y2.1 (by rw [Y0.2, Y1.2, Y2.2]; cases b0 <;> cases b1 <;> cases b2 <;> simp at c ⊢), Y0.2]
      cases b0 <;> cases b1 <;> cases b2 <;> simp at c ⊢
  have wor : ∃ d T, L (k + 7) "_law_worlds" [y1 b1, y0 b0] ⟨[], S⟩ = .ok d ⟨[], S ++ T⟩ ∧ (∀ o ∈ T, ∀ n, SO.low n o = true) ∧ ∀ ρ, cmpD .eq (look ⟨ρ, S ++ T⟩ d) (if b1 then .str "world" else if b0 then .str "hidden" else manyD hb ht bs ts) = some true := by
    by_cases c : b0 = false ∧ b1 = false
    · obtain ⟨rfl, rfl⟩ := c
      exact wor_all hT hW hN hD' hL k S hh h1
    · refine ⟨_, [], by rw [wor_bad hW hN hD' hL k S Y1.1 Y0.1 (by rw [Y0.2, Y1.2]; cases b0 <;> cases b1 <;> simp at c ⊢), List.append_nil], fun o ho => by simp at ho, fun ρ => ?_⟩
      rw [Y1.2]
      cases b0 <;> cases b1 <;> simp at c ⊢ <;> decide +kernel
  obtain ⟨wd, T, hwor, lT, hwe⟩ := wor
  generalize hA : hD hb ht = A at *
  generalize hB : wD bs ts = B at *
  generalize hC : wD bs' ts' = C at *
  have lA : ∀ m, look m A = A := fun m => by rw [← hA]; rfl
  have lB : ∀ m, look m B = B := fun m => by rw [← hB]; rfl
  have lC : ∀ m, look m C = C := fun m => by rw [← hC]; rfl
  generalize hM : manyD hb ht bs ts = M at *
  have lM : ∀ m, look m M = M := fun m => by rw [← hM, manyD]; split <;> rfl
  have c1 : evN (L (k + 7)) c1__law_spoilt_are ⟨[.va A, .va B, .va C, .va M, .va (.int n), .va (.int mo), .un, .un, .un, .un, .un], S⟩ = .ok (.lst [.bl b0, .bl b1, .bl b2]) ⟨[.va A, .va B, .va C, .va M, .va (.int n), .va (.int mo), .un, .un, .un, .un, .un], S⟩ := by
    simp [c1__law_spoilt_are, z_nlc, lcM, mayWipe, lcL_cons, lcL_nil, zl, Tg.slots, restR, z, Sl.isOwn, hb0, hb1, hb2]
  have a3 : ∀ a b c : D, atI [a, b, c] 0 = some a ∧ atI [a, b, c] 1 = some b ∧ atI [a, b, c] 2 = some c := fun _ _ _ => ⟨rfl, rfl, rfl⟩
  have i3 : ixN 3 0 = some 0 ∧ ixN 3 1 = some 1 ∧ ixN 3 2 = some 2 := ⟨rfl, rfl, rfl⟩
  have fr : ∃ t, repD (if b0 then .str "hidden" else if b1 || b2 then .str "world" else .bl (difB hb ht bs ts bs' ts')) = some t ∧ cmpD .eq (.str t) (.str t) = some true := by
    cases b0 <;> cases b1 <;> cases b2 <;> first | exact bl_rep _ | exact st_rep _ (.inl rfl) | exact st_rep _ (.inr rfl)
  obtain ⟨t, ht1, ht2⟩ := fr
  generalize difB hb ht bs ts bs' ts' = q at *
  have l0 : ∀ (b0 b1 b2 : Bool) (u0 u1 u2 : D) (i : Nat), i < 3 → True := fun _ _ _ _ _ _ _ _ => trivial
  have st0 : evTs (L (k + 7)) l1__law_spoilt_are ⟨[.va A, .va B, .va C, .va M, .va (.int n), .va (.int mo), .own (.lst [.bl b0, .bl b1, .bl b2]), .own (.lst [A, B, C]), .va (.int 0), .un, .un], S⟩ = .ok .nx ⟨[.va A, .va B, .va C, .va M, .va (.int n), .va (.int mo), .own (.lst [.bl b0, .bl b1, .bl b2]), .own (.lst [y0 b0, B, C]), .va (.int 0), .un, .un], S⟩ := by
    unfold l1__law_spoilt_are
    cases b0 <;> simp [a3, i3, y0, hA, t40, s0]
  have st1 : evTs (L (k + 7)) l1__law_spoilt_are ⟨[.va A, .va B, .va C, .va M, .va (.int n), .va (.int mo), .own (.lst [.bl b0, .bl b1, .bl b2]), .own (.lst [y0 b0, B, C]), .va (.int 1), .un, .un], S⟩ = .ok .nx ⟨[.va A, .va B, .va C, .va M, .va (.int n), .va (.int mo), .own (.lst [.bl b0, .bl b1, .bl b2]), .own (.lst [y0 b0, y1 b1, C]), .va (.int 1), .un, .un], S⟩ := by
    unfold l1__law_spoilt_are
    generalize y0 b0 = u0
    cases b1 <;> simp [a3, i3, y1, hB, t41, s1]
  have st2 : evTs (L (k + 7)) l1__law_spoilt_are ⟨[.va A, .va B, .va C, .va M, .va (.int n), .va (.int mo), .own (.lst [.bl b0, .bl b1, .bl b2]), .own (.lst [y0 b0, y1 b1, C]), .va (.int 2), .un, .un], S⟩ = .ok .nx ⟨[.va A, .va B, .va C, .va M, .va (.int n), .va (.int mo), .own (.lst [.bl b0, .bl b1, .bl b2]), .own (.lst [y0 b0, y1 b1, y2 b2]), .va (.int 2), .un, .un], S⟩ := by
    unfold l1__law_spoilt_are
    generalize y0 b0 = u0
    generalize y1 b1 = u1
    cases b2 <;> simp [a3, i3, y2, hC, t42, s2]
  generalize y0 b0 = u0 at *
  generalize y1 b1 = u1 at *
  generalize y2 b2 = u2 at *
  have lp : forL [8] (.nm 8) (evTs (L (k + 7)) l1__law_spoilt_are) ((List.range 3).map fun (j : Nat) => D.int (j : Int)) ⟨[.va A, .va B, .va C, .va M, .va (.int n), .va (.int mo), .own (.lst [.bl b0, .bl b1, .bl b2]), .own (.lst [A, B, C]), .un, .un, .un], S⟩ = .ok .nx ⟨[.va A, .va B, .va C, .va M, .va (.int n), .va (.int mo), .own (.lst [.bl b0, .bl b1, .bl b2]), .own (.lst [u0, u1, u2]), .un, .un, .un], S⟩ := by
    show forL [8] (.nm 8) _ [.int 0, .int 1, .int 2] _ = _
    rw [forL_step rfl st0, forL_step rfl st1, forL_step rfl st2]
    rfl
  have fin : ∃ ρ', evTs (L (k + 7)) b__law_spoilt_are ⟨[.va A, .va B, .va C, .va M, .va (.int n), .un, .un, .un, .un, .un, .un], S⟩ = .ok (.rt (.bl true)) ⟨ρ', S ++ T⟩ := by
    unfold b__law_spoilt_are
    rw [seq_nx (m' := ⟨[.va A, .va B, .va C, .va M, .va (.int n), .va (.int mo), .un, .un, .un, .un, .un], S⟩) (by simp [t3])]
    rw [seq_nx (m' := ⟨[.va A, .va B, .va C, .va M, .va (.int n), .va (.int mo), .own (.lst [.bl b0, .bl b1, .bl b2]), .un, .un, .un, .un], S⟩) (by simp [c1])]
    rw [seq_nx (m' := ⟨[.va A, .va B, .va C, .va M, .va (.int n), .va (.int mo), .own (.lst [.bl b0, .bl b1, .bl b2]), .own (.lst [A, B, C]), .un, .un, .un], S⟩) (by simp [z])]
    rw [seq_nx (for_nx (evS_rng (j := 3) (by simp) (by omega)) lp)]
    rw [seq_nx (m' := ⟨[.va A, .va B, .va C, .va M, .va (.int n), .va (.int mo), .own (.lst [.bl b0, .bl b1, .bl b2]), .own (.lst [u0, u1, u2]), .un, .va (if b0 then .str "hidden" else if b1 || b2 then .str "world" else .bl q), .un], S⟩) (by cases b0 <;> cases b1 <;> cases b2 <;> simp [a3, du])]
    rw [seq_nx (m' := ⟨[.va A, .va B, .va C, .va M, .va (.int n), .va (.int mo), .own (.lst [.bl b0, .bl b1, .bl b2]), .own (.lst [u0, u1, u2]), .un, .va (if b0 then .str "hidden" else if b1 || b2 then .str "world" else .bl q), .un], S⟩) (by
      generalize hX : (if b0 then D.str "hidden" else if b1 || b2 then .str "world" else .bl q) = X at *
      have lX : ∀ m, look m X = X := fun m => by rw [← hX]; cases b0 <;> cases b1 <;> cases b2 <;> rfl
      simp [a3, dif, ht1, ht2, lX])]
    rw [seq_nx (m' := ⟨[.va A, .va B, .va C, .va M, .va (.int n), .va (.int mo), .own (.lst [.bl b0, .bl b1, .bl b2]), .own (.lst [u0, u1, u2]), .un, .va (if b1 then .str "world" else if b0 then .str "hidden" else M), .un], S⟩) (by cases b0 <;> cases b1 <;> simp [a3])]
    generalize hX : (if b1 then D.str "world" else if b0 then .str "hidden" else M) = X at *
    have lX : ∀ m, look m X = X := fun m => by rw [← hX]; cases b0 <;> cases b1 <;> first | rfl | exact lM m
    exact ⟨_, seq_rt (m' := ⟨[.va A, .va B, .va C, .va M, .va (.int n), .va (.int mo), .own (.lst [.bl b0, .bl b1, .bl b2]), .own (.lst [u0, u1, u2]), .un, .va X, .un], S ++ T⟩) (by simp [a3, hwor, lX, hwe])⟩
  obtain ⟨ρ', fin⟩ := fin
  rw [hL.spa, body_rt (S := S) rfl fin, hS.trunc (by simp [D.lows, D.low])]
end
end LB

namespace LB
open PySem L2 PyProof.Rows
theorem Low.more {S T : List SO} (h : Low S) (k : ∀ o ∈ T, ∀ n, SO.low n o = true) : Low (S ++ T) := h.app fun o ho => k o ho _
theorem few_ok {n : Int} (h0 : 0 ≤ n) : ∃ fb : List Int, HOk fb [] ∧ fb.length ≤ 2 ∧ cutD [D.int (n / 5 % 32), .int ((n / 5 % 32 + 1 + n / 160 % 31) % 32)] none (some (n / 11 % 3)) = (cutD [D.int (n / 5 % 32), .int ((n / 5 % 32 + 1 + n / 160 % 31) % 32)] none (some (n / 11 % 3))) ∧ ∀ m, srtN (.tup (cutD [D.int (n / 5 % 32), .int ((n / 5 % 32 + 1 + n / 160 % 31) % 32)] none (some (n / 11 % 3)))) m = .ok (.lst (fb.map .int)) m := by
  have a0 : 0 ≤ n / 5 % 32 ∧ n / 5 % 32 ≤ 31 := by omega
  have d0 : 0 ≤ n / 160 % 31 ∧ n / 160 % 31 ≤ 30 := by omega
  generalize n / 5 % 32 = a at *
  generalize n / 160 % 31 = d at *
  have b0 : 0 ≤ (a + 1 + d) % 32 ∧ (a + 1 + d) % 32 ≤ 31 := by omega
  have ne : (a + 1 + d) % 32 ≠ a := by omega
  generalize (a + 1 + d) % 32 = b at *
  have hok : ∀ l : List Int, l.length ≤ 2 → (∀ x ∈ l, 0 ≤ x ∧ x ≤ 31) → l.Pairwise (· < ·) → HOk l [] := fun l h1 h2 h3 => ⟨h2, by simp, h3, .nil, by omega, by simp⟩
  rcases (by omega : n / 11 % 3 = 0 ∨ n / 11 % 3 = 1 ∨ n / 11 % 3 = 2) with e | e | e <;> rw [e]
  · refine ⟨[], hok _ (by simp) (by simp) .nil, by simp, rfl, fun m => ?_⟩
    rw [cut_hi (by omega)]
    rfl
  · refine ⟨[a], hok _ (by simp) (by simpa using a0) (by simp), by simp, rfl, fun m => ?_⟩
    rw [cut_hi (by omega)]
    rfl
  · have c : cutD [D.int a, .int b] none (some 2) = [.int a, .int b] := by rw [cut_hi (by omega)]; rfl
    rw [c]
    by_cases q : a ≤ b
    · refine ⟨[a, b], hok _ (by simp) (by simpa using ⟨a0, b0⟩) (by simp; omega), by simp, rfl, fun m => ?_⟩
      have e : srtN (.tup [.int a, .int b]) m = .ok (.lst ((sortL [a, b]).map .int)) m := rfl
      rw [e]
      simp [sortL, insL, q]
    · refine ⟨[b, a], hok _ (by simp) (by simpa using ⟨b0, a0⟩) (by simp; omega), by simp, rfl, fun m => ?_⟩
      have e : srtN (.tup [.int a, .int b]) m = .ok (.lst ((sortL [a, b]).map .int)) m := rfl
      rw [e]
      simp [sortL, insL, q]
theorem isi_list (ds : List D) : isiD "list" (.lst ds) = some true := by simp
section
variable {L : Nat → Str → Fn} (hT : LTurn L) (hG : LGen L) (hW : LWorlds L) (hN : LNeed L) (hD' : LDiff L) (hL : LK5 L) (k : Nat) (S : List SO)
include hT hG hW hN hD' hL
theorem turn5 (hS : Low S) {ns : List Int} (hl : ns.length ≤ 63) {j : Nat} (hj : j < 1000) : ∃ ρ' S', Low S' ∧ evTs (L (k + 8)) l2_law_k05 ⟨[.va (.lst (ns.map .int)), .va (.int (j : Int)), .un, .un, .un, .un, .un, .un, .un, .un, .un, .un, .un], S⟩ = .ok .nx ⟨ρ', S'⟩ ∧ wipeR [1, 2, 3, 4, 5, 6, 7, 8, 9, 10, 11, 12] ρ' = [.va (.lst (ns.map .int)), .un, .un, .un, .un, .un, .un, .un, .un, .un, .un, .un, .un] := by
  have z : ∀ j : Nat, j ≤ 100 → j ≤ sizeLine := fun j hj => by rw [sizeLine_eq]; omega
  have zl : ∀ j : Nat, j ≤ 100 → j < sizeLine := fun j hj => by rw [sizeLine_eq]; omega
  have dr := mixN_dr ns (j : Int)
  have mx := mixed_ok hT (k + 7) S hl (j := (j : Int)) (by omega) (by omega)
  generalize mixN ns (j : Int) = n at *
  have t1 := turned_ok hT (k + 7) S dr (j := 1) (by omega) (by omega)
  have t2 := turned_ok hT (k + 7) S dr (j := 2) (by omega) (by omega)
  have t7 := turned_ok hT (k + 7) S dr (j := 7) (by omega) (by omega)
  obtain ⟨hb, ht, gh, hh⟩ := hidden_hD hT hG (k + 6) S dr
  have gw := world_ok hT hG (k + 6) S (turnN_dr n 1)
  obtain ⟨bs, ts, ew, h1⟩ := worldN_wD (turnN n 1)
  rw [ew] at gw
  obtain ⟨bs', ts', go, h2⟩ := other_ok hT hL (k + 6) S hS hh h1 (turnN_dr n 2)
  obtain ⟨mb, mt, gm, hm⟩ := hidden_hD hT hG (k + 6) S (turnN_dr n 7)
  generalize turnN n 1 = n1 at *
  generalize turnN n 2 = n2 at *
  generalize turnN n 7 = n7 at *
  obtain ⟨fb, hf, lf, _, sf⟩ := few_ok dr.1
  have hnil : HOk [] [] := ⟨by simp, by simp, .nil, .nil, by simp, by simp⟩
  have whichs : ∀ x ∈ [(hb, ht), (mb, mt), (hb, ht), ([], []), (mb, mt)], HOk x.1 x.2 := by
    intro x hx
    simp only [List.mem_cons, List.not_mem_nil, or_false] at hx
    rcases hx with rfl | rfl | rfl | rfl | rfl
    · exact hh
    · exact hm
    · exact hh
    · exact hnil
    · exact hm
  -- the first look
  have lp := forL_same (g := fun x : List Int × List Int => hD x.1 x.2) (ks := [7]) (t := .nm 7) (b := evTs (L (k + 8)) l1_law_k05) (S := S) (ρ := [.va (.lst (ns.map .int)), .va (.int (j : Int)), .va (.int n), .va (hD hb ht), .va (wD bs ts), .va (wD bs' ts'), .va (hD mb mt), .un, .un, .un, .un, .un, .un]) (fun x => [.va (.lst (ns.map .int)), .va (.int (j : Int)), .va (.int n), .va (hD hb ht), .va (wD bs ts), .va (wD bs' ts'), .va (hD mb mt), .va (hD x.1 x.2), .un, .un, .un, .un, .un]) rfl (xs := [(hb, ht), (mb, mt), (hb, ht), ([], []), (mb, mt)]) (fun x _ => rfl) (fun x hx => by
    have hx' := whichs x hx
    have g := dif_good hW hN hD' hL (k + 1) S hx' h1 h2
    have d := due_ok hL (k + 7) S (hb := x.1) (ht := x.2) h1 h2
    obtain ⟨t, e1, e2⟩ := bl_rep (difB x.1 x.2 bs ts bs' ts')
    refine ⟨[.va (.lst (ns.map .int)), .va (.int (j : Int)), .va (.int n), .va (hD hb ht), .va (wD bs ts), .va (wD bs' ts'), .va (hD mb mt), .va (hD x.1 x.2), .un, .un, .un, .un, .un], ?_, rfl⟩
    unfold l1_law_k05
    simp [g, d, e1, e2])
  have wb : WOk bs ts'.reverse := ⟨h1.n, h1.b, by rw [List.length_reverse]; exact h2.m, fun r hr => h2.l r (List.mem_reverse.mp hr), fun r hr => h2.t r (List.mem_reverse.mp hr)⟩
  have tw1 := twins_ok hW hN hD' hL k S hS hh h1 h2
  have tw2 := twins_ok hW hN hD' hL k S hS hf h1 h2
  -- worlds told, taken away, told again
  let A1 : D := .lst ((worldsB bs fb).map fun b => wD b ts)
  let A2 : D := .lst ((worldsB bs fb).map fun b => wD b ts'.reverse)
  let S1 : List SO := S ++ [.ob (.lst ((worldsB bs fb).map fun b => wD b ts))]
  let S2 : List SO := S ++ [.ob (.lst [])]
  let S3 : List SO := S2 ++ [.ob (.lst ((worldsB bs fb).map fun b => wD b ts))]
  let S4 : List SO := S3 ++ [.ob (.lst ((worldsB bs fb).map fun b => wD b ts'.reverse))]
  have lowW : ∀ (ts : List (List Int)), ∀ o ∈ [SO.ob (.lst ((worldsB bs fb).map fun b => wD b ts))], ∀ n, SO.low n o = true := fun ts o ho n => by
    rw [List.mem_singleton] at ho
    subst ho
    exact worlds_low n _ _
  have L1 : Low S1 := hS.more (lowW ts)
  have L2 : Low S2 := hS.more fun o ho n => by rw [List.mem_singleton] at ho; subst ho; rfl
  have L3 : Low S3 := L2.more (lowW ts)
  have L4 : Low S4 := L3.more (lowW _)
  have w1 : L (k + 8) "_law_worlds" [wD bs ts, hD fb []] ⟨[], S⟩ = .ok (.ref S.length) ⟨[], S1⟩ := wor_good hW hN hD' hL (k + 1) S hf h1 lf
  have w2 : L (k + 8) "_law_worlds" [wD bs ts, hD fb []] ⟨[], S2⟩ = .ok (.ref S2.length) ⟨[], S3⟩ := wor_good hW hN hD' hL (k + 1) S2 hf h1 lf
  have w3 : L (k + 8) "_law_worlds" [wD bs ts'.reverse, hD fb []] ⟨[], S3⟩ = .ok (.ref S3.length) ⟨[], S4⟩ := wor_good hW hN hD' hL (k + 1) S3 hf wb lf
  have al1 : ∀ S, L (k + 8) "_law_all" [wD bs ts, hD fb []] ⟨[], S⟩ = .ok A1 ⟨[], S⟩ := fun S => all_ok5 hL (k + 7) S hf h1 lf
  have al2 : ∀ S, L (k + 8) "_law_all" [wD bs ts'.reverse, hD fb []] ⟨[], S⟩ = .ok A2 ⟨[], S⟩ := fun S => all_ok5 hL (k + 7) S hf wb lf
  have q1 : cmpD .eq A1 A1 = some true := eq_worlds h1
  have q2 : cmpD .eq A2 A2 = some true := eq_worlds wb
  have k1 : ∀ ρ, look ⟨ρ, S1⟩ (.ref S.length) = A1 := fun ρ => by simp [S1, A1]
  have k2 : ∀ ρ, look ⟨ρ, S3⟩ (.ref S2.length) = A1 := fun ρ => by
    show look ⟨ρ, S2 ++ _⟩ (.ref S2.length) = A1
    simp only [z_lref, get_app0, List.getElem?_cons_zero, z_obl]
    rfl
  have k3 : ∀ ρ, look ⟨ρ, S4⟩ (.ref S3.length) = A2 := fun ρ => by
    show look ⟨ρ, S3 ++ _⟩ (.ref S3.length) = A2
    simp only [z_lref, get_app0, List.getElem?_cons_zero, z_obl]
    rfl
  have kA1 : ∀ m, look m A1 = A1 := fun _ => rfl
  have kA2 : ∀ m, look m A2 = A2 := fun _ => rfl
  have iA1 : isiD "list" A1 = some true := isi_list _
  obtain ⟨wd, T, w4, lT, e4⟩ := wor_all hT hW hN hD' hL (k + 1) S4 hh h1
  have sp := spa_ok hT hW hN hD' hL k (S4 ++ T) (L4.more lT) hh h1 h2 dr
  have lM : ∀ m, look m (manyD hb ht bs ts) = manyD hb ht bs ts := fun m => by rw [manyD]; split <;> rfl
  have many : evT (L (k + 8)) (.asg (.nm 12) (.ite (.or (.cmp .gt (.b1 .len (.ix (.v 3) (.k (.int 0)))) (.k (.int 2))) (.cmp .ne (.ix (.v 3) (.k (.int 1))) (.tup .nil))) (.k (.str "many")) (.call "_law_all" (.cons (.v 4) (.cons (.v 3) .nil))))) ⟨[.va (.lst (ns.map .int)), .va (.int (j : Int)), .va (.int n), .va (hD hb ht), .va (wD bs ts), .va (wD bs' ts'), .va (hD mb mt), .un, .va (.int (n / 5 % 32)), .va (hD fb []), .va (.ref S.length), .va (wD bs ts'.reverse), .un], S4⟩ = .ok .nx ⟨[.va (.lst (ns.map .int)), .va (.int (j : Int)), .va (.int n), .va (hD hb ht), .va (wD bs ts), .va (wD bs' ts'), .va (hD mb mt), .un, .va (.int (n / 5 % 32)), .va (hD fb []), .va (.ref S.length), .va (wD bs ts'.reverse), .va (manyD hb ht bs ts)], S4⟩ := by
    have eqt : cmpD .eq (rD ht) (.tup []) = some (decide (ht = [])) := z_eqr ht []
    by_cases c : hb.length ≤ 2 ∧ ht = []
    · obtain ⟨c1, rfl⟩ := c
      have c2 : ¬ (2 < (hb.length : Int)) := by omega
      have al3 := all_ok5 hL (k + 7) S4 hh h1 c1
      refine asg_nm (m' := ⟨[.va (.lst (ns.map .int)), .va (.int (j : Int)), .va (.int n), .va (hD hb []), .va (wD bs ts), .va (wD bs' ts'), .va (hD mb mt), .un, .va (.int (n / 5 % 32)), .va (hD fb []), .va (.ref S.length), .va (wD bs ts'.reverse), .un], S4⟩) (ite_f (m' := ⟨[.va (.lst (ns.map .int)), .va (.int (j : Int)), .va (.int n), .va (hD hb []), .va (wD bs ts), .va (wD bs' ts'), .va (hD mb mt), .un, .va (.int (n / 5 % 32)), .va (hD fb []), .va (.ref S.length), .va (wD bs ts'.reverse), .un], S4⟩) (by simp [rD_len, c2, eqt, z]) ?_)
      rw [manyD, if_pos ⟨c1, rfl⟩]
      simp [al3]
    · refine asg_nm (m' := ⟨[.va (.lst (ns.map .int)), .va (.int (j : Int)), .va (.int n), .va (hD hb ht), .va (wD bs ts), .va (wD bs' ts'), .va (hD mb mt), .un, .va (.int (n / 5 % 32)), .va (hD fb []), .va (.ref S.length), .va (wD bs ts'.reverse), .un], S4⟩) (ite_t (m' := ⟨[.va (.lst (ns.map .int)), .va (.int (j : Int)), .va (.int n), .va (hD hb ht), .va (wD bs ts), .va (wD bs' ts'), .va (hD mb mt), .un, .va (.int (n / 5 % 32)), .va (hD fb []), .va (.ref S.length), .va (wD bs ts'.reverse), .un], S4⟩) ?_ ?_)
      · by_cases c2 : 2 < (hb.length : Int)
        · simp [rD_len, c2]
        · have c3 : ht ≠ [] := fun e => c ⟨by omega, e⟩
          simp [rD_len, c2, eqt, c3, z]
      · rw [manyD, if_neg c]
        simp
  refine ⟨[.va (.lst (ns.map .int)), .va (.int (j : Int)), .va (.int n), .va (hD hb ht), .va (wD bs ts), .va (wD bs' ts'), .va (hD mb mt), .un, .va (.int (n / 5 % 32)), .va (hD fb []), .va (.ref S.length), .va (wD bs ts'.reverse), .va (manyD hb ht bs ts)], S4 ++ T, L4.more lT, ?_, rfl⟩
  unfold l2_law_k05
  rw [seq_nx (m' := ⟨[.va (.lst (ns.map .int)), .va (.int (j : Int)), .va (.int n), .un, .un, .un, .un, .un, .un, .un, .un, .un, .un], S⟩) (by simp [mx])]
  rw [seq_nx (m' := ⟨[.va (.lst (ns.map .int)), .va (.int (j : Int)), .va (.int n), .va (hD hb ht), .va (wD bs ts), .un, .un, .un, .un, .un, .un, .un, .un], S⟩) (by simp [gh, t1, gw])]
  rw [seq_nx (m' := ⟨[.va (.lst (ns.map .int)), .va (.int (j : Int)), .va (.int n), .va (hD hb ht), .va (wD bs ts), .va (wD bs' ts'), .un, .un, .un, .un, .un, .un, .un], S⟩) (by simp [t2, go])]
  rw [seq_nx (m' := ⟨[.va (.lst (ns.map .int)), .va (.int (j : Int)), .va (.int n), .va (hD hb ht), .va (wD bs ts), .va (wD bs' ts'), .va (hD mb mt), .un, .un, .un, .un, .un, .un], S⟩) (by simp [t7, gm])]
  rw [seq_nx (for_nx (m' := ⟨[.va (.lst (ns.map .int)), .va (.int (j : Int)), .va (.int n), .va (hD hb ht), .va (wD bs ts), .va (wD bs' ts'), .va (hD mb mt), .un, .un, .un, .un, .un, .un], S⟩) (ds := [(hb, ht), (mb, mt), (hb, ht), ([], []), (mb, mt)].map fun x : List Int × List Int => hD x.1 x.2) (by
    simp [z]
    rfl) lp)]
  rw [seq_nx (m' := ⟨[.va (.lst (ns.map .int)), .va (.int (j : Int)), .va (.int n), .va (hD hb ht), .va (wD bs ts), .va (wD bs' ts'), .va (hD mb mt), .un, .va (.int (n / 5 % 32)), .un, .un, .un, .un], S⟩) (by simp)]
  rw [seq_nx (m' := ⟨[.va (.lst (ns.map .int)), .va (.int (j : Int)), .va (.int n), .va (hD hb ht), .va (wD bs ts), .va (wD bs' ts'), .va (hD mb mt), .un, .va (.int (n / 5 % 32)), .va (.tup [.tup (cutD [D.int (n / 5 % 32), .int ((n / 5 % 32 + 1 + n / 160 % 31) % 32)] none (some (n / 11 % 3))), .tup []]), .un, .un, .un], S⟩) (by simp [z])]
  rw [seq_nx (m' := ⟨[.va (.lst (ns.map .int)), .va (.int (j : Int)), .va (.int n), .va (hD hb ht), .va (wD bs ts), .va (wD bs' ts'), .va (hD mb mt), .un, .va (.int (n / 5 % 32)), .va (hD fb []), .un, .un, .un], S⟩) (by
    have a2 : ∀ a b : D, atI [a, b] 0 = some a := fun _ _ => rfl
    simp [z, a2, sf]
    rfl)]
  rw [seq_nx (m' := ⟨[.va (.lst (ns.map .int)), .va (.int (j : Int)), .va (.int n), .va (hD hb ht), .va (wD bs ts), .va (wD bs' ts'), .va (hD mb mt), .un, .va (.int (n / 5 % 32)), .va (hD fb []), .un, .un, .un], S⟩) (by simp [tw1, tw2])]
  rw [seq_nx (m' := ⟨[.va (.lst (ns.map .int)), .va (.int (j : Int)), .va (.int n), .va (hD hb ht), .va (wD bs ts), .va (wD bs' ts'), .va (hD mb mt), .un, .va (.int (n / 5 % 32)), .va (hD fb []), .va (.ref S.length), .un, .un], S1⟩) (by simp [w1])]
  rw [seq_nx (m' := ⟨[.va (.lst (ns.map .int)), .va (.int (j : Int)), .va (.int n), .va (hD hb ht), .va (wD bs ts), .va (wD bs' ts'), .va (hD mb mt), .un, .va (.int (n / 5 % 32)), .va (hD fb []), .va (.ref S.length), .un, .un], S1⟩) (by simp [-z_lref, -z_isd, k1, iA1, al1, kA1, q1])]
  rw [seq_nx (m' := ⟨[.va (.lst (ns.map .int)), .va (.int (j : Int)), .va (.int n), .va (hD hb ht), .va (wD bs ts), .va (wD bs' ts'), .va (hD mb mt), .un, .va (.int (n / 5 % 32)), .va (hD fb []), .va (.ref S.length), .un, .un], S2⟩) (by simp [S1, S2])]
  rw [seq_nx (m' := ⟨[.va (.lst (ns.map .int)), .va (.int (j : Int)), .va (.int n), .va (hD hb ht), .va (wD bs ts), .va (wD bs' ts'), .va (hD mb mt), .un, .va (.int (n / 5 % 32)), .va (hD fb []), .va (.ref S.length), .va (wD bs ts'.reverse), .un], S2⟩) (by
    have a2 : ∀ a b : D, atI [a, b] 0 = some a ∧ atI [a, b] 1 = some b := fun _ _ => ⟨rfl, rfl⟩
    simp [z, wD, a2])]
  rw [seq_nx (m' := ⟨[.va (.lst (ns.map .int)), .va (.int (j : Int)), .va (.int n), .va (hD hb ht), .va (wD bs ts), .va (wD bs' ts'), .va (hD mb mt), .un, .va (.int (n / 5 % 32)), .va (hD fb []), .va (.ref S.length), .va (wD bs ts'.reverse), .un], S4⟩) (by simp [-z_lref, w2, w3, al1, al2, k2, k3, kA1, kA2, q1, q2])]
  rw [seq_nx many]
  rw [seq_nx (m' := ⟨[.va (.lst (ns.map .int)), .va (.int (j : Int)), .va (.int n), .va (hD hb ht), .va (wD bs ts), .va (wD bs' ts'), .va (hD mb mt), .un, .va (.int (n / 5 % 32)), .va (hD fb []), .va (.ref S.length), .va (wD bs ts'.reverse), .va (manyD hb ht bs ts)], S4 ++ T⟩) (by simp [w4, e4, lM])]
  rw [seq_nx (m' := ⟨[.va (.lst (ns.map .int)), .va (.int (j : Int)), .va (.int n), .va (hD hb ht), .va (wD bs ts), .va (wD bs' ts'), .va (hD mb mt), .un, .va (.int (n / 5 % 32)), .va (hD fb []), .va (.ref S.length), .va (wD bs ts'.reverse), .va (manyD hb ht bs ts)], S4 ++ T⟩) (by simp [sp])]
  rfl
theorem law5_ok {ns : List Int} (hl : ns.length ≤ 63) : ∃ m, L (k + 9) "law" [.lst (ns.map .int)] ⟨[], []⟩ = .ok (.bl true) m := by
  rw [hL.law]
  generalize hM : (if (ns.length : Int) < 10 then (ns.length : Int) else 10) = M
  obtain ⟨M, rfl⟩ : ∃ M' : Nat, M = (M' : Int) := by
    have : 0 ≤ M := by rw [← hM]; split <;> omega
    exact Int.eq_ofNat_of_zero_le this
  have M2 : M ≤ 10 := by
    have : (M : Int) ≤ 10 := by rw [← hM]; split <;> omega
    omega
  have lp := forL_rel (g := fun x : Nat => D.int (x : Int)) (ks := [1, 2, 3, 4, 5, 6, 7, 8, 9, 10, 11, 12]) (t := .nm 1) (b := evTs (L (k + 8)) l2_law_k05) (R := fun (_ : Unit) m => m.ρ = [.va (.lst (ns.map .int)), .un, .un, .un, .un, .un, .un, .un, .un, .un, .un, .un, .un] ∧ Low m.S) (fun s _ => s) (s := ()) (xs := List.range (1 + M)) (m := ⟨[.va (.lst (ns.map .int)), .un, .un, .un, .un, .un, .un, .un, .un, .un, .un, .un, .un], []⟩) (fun s x m hx ⟨e1, e2⟩ => by
    obtain ⟨ρ, S⟩ := m
    simp only at e1 e2
    subst e1
    have := List.mem_range.mp hx
    obtain ⟨ρ', S', l, e, w⟩ := turn5 hT hG hW hN hD' hL k S e2 hl (j := x) (by omega)
    exact ⟨_, _, rfl, e, w, l⟩) ⟨rfl, rfl⟩
  obtain ⟨m', e, e1, e2⟩ := lp
  refine ⟨_, body_rt (S := []) (ρ := m'.ρ) (S' := m'.S) rfl ?_⟩
  show evTs (L (k + 8)) b_law_k05 ⟨[.va (.lst (ns.map .int)), .un, .un, .un, .un, .un, .un, .un, .un, .un, .un, .un, .un], []⟩ = _
  unfold b_law_k05
  rw [seq_nx (for_nx (evS_rng (j := 1 + M) (m' := ⟨[.va (.lst (ns.map .int)), .un, .un, .un, .un, .un, .un, .un, .un, .un, .un, .un, .un], []⟩) (by
    rw [show (((1 + M : Nat)) : Int) = 1 + (M : Int) by omega, ← hM]
    simp) (by omega)) e)]
  rw [seq_rt (d := .bl true) (m' := m') rfl]
end
end LB

namespace LB
open PySem L2 PyProof.Rows
def top_k05 (i : Nat) : Stmt := PySem.Challenge.pw_likebeats_k05_worlds_that_differ.main.body.getD i (.Pass ⟨0, 0, 0, 0⟩)
def meth_k05 (i j : Nat) : Stmt := match top_k05 i with
  | .ClassDef _ _ _ b _ _ _ _ _ _ _ => b.getD j (.Pass ⟨0, 0, 0, 0⟩)
  | _ => .Pass ⟨0, 0, 0, 0⟩
def dk05_is_among : DefR := ⟨("is_among" : Str), ("is_among" : Str), ("is_among" : Str), none, ["thing", "least", "most"], ["thing", "least", "most"], defArgs (top_k05 14), defBody (top_k05 14), defScope (top_k05 14), b_is_among, [], [], []⟩
def dk05_is_word : DefR := ⟨("is_word" : Str), ("is_word" : Str), ("is_word" : Str), none, ["thing"], ["thing"], defArgs (top_k05 15), defBody (top_k05 15), defScope (top_k05 15), b_is_word, [], [], []⟩
def dk05_are_words : DefR := ⟨("are_words" : Str), ("are_words" : Str), ("are_words" : Str), none, ["thing", "many"], ["thing", "many", "word"], defArgs (top_k05 18), defBody (top_k05 18), defScope (top_k05 18), b_are_words, [], [], []⟩
def dk05_is_world : DefR := ⟨("is_world" : Str), ("is_world" : Str), ("is_world" : Str), none, ["thing"], ["thing", "table"], defArgs (top_k05 19), defBody (top_k05 19), defScope (top_k05 19), b_is_world, [], [], []⟩
def dk05_is_rising : DefR := ⟨("is_rising" : Str), ("is_rising" : Str), ("is_rising" : Str), none, ["thing", "many"], ["thing", "many", "number", "one", "other"], defArgs (top_k05 20), defBody (top_k05 20), defScope (top_k05 20), b_is_rising, [], [], []⟩
def dk05_is_hidden : DefR := ⟨("is_hidden" : Str), ("is_hidden" : Str), ("is_hidden" : Str), none, ["thing"], ["thing"], defArgs (top_k05 21), defBody (top_k05 21), defScope (top_k05 21), b_is_hidden, [], [], []⟩
def dk05_need_world : DefR := ⟨("need_world" : Str), ("need_world" : Str), ("need_world" : Str), none, ["thing"], ["thing"], defArgs (top_k05 22), defBody (top_k05 22), defScope (top_k05 22), b_need_world, [], [], []⟩
def dk05_need_hidden : DefR := ⟨("need_hidden" : Str), ("need_hidden" : Str), ("need_hidden" : Str), none, ["thing"], ["thing"], defArgs (top_k05 23), defBody (top_k05 23), defScope (top_k05 23), b_need_hidden, [], [], []⟩
def dk05_differ_within : DefR := ⟨("differ_within" : Str), ("differ_within" : Str), ("differ_within" : Str), none, ["hidden", "one", "other"], ["hidden", "one", "other", "place", "number", "mine"], defArgs (top_k05 24), defBody (top_k05 24), defScope (top_k05 24), b_differ_within, [], [], []⟩
def dk05_worlds_of : DefR := ⟨("worlds_of" : Str), ("worlds_of" : Str), ("worlds_of" : Str), none, ["world", "hidden"], ["world", "hidden", "found", "box", "longer", "boxes", "word"], defArgs (top_k05 25), defBody (top_k05 25), defScope (top_k05 25), b_worlds_of_v1, [2], [(74, 11)], []⟩
def dk05__law_mixed : DefR := ⟨("_law_mixed" : Str), ("_law_mixed" : Str), ("_law_mixed" : Str), none, ["_law_script", "_law_k"], ["_law_script", "_law_k", "_law_cell", "_law_times"], defArgs (top_k05 27), defBody (top_k05 27), defScope (top_k05 27), b__law_mixed, [], [], []⟩
def dk05__law_turned : DefR := ⟨("_law_turned" : Str), ("_law_turned" : Str), ("_law_turned" : Str), none, ["_law_number", "_law_k"], ["_law_number", "_law_k", "_law_times"], defArgs (top_k05 28), defBody (top_k05 28), defScope (top_k05 28), b__law_turned, [], [], []⟩
def dk05__law_world : DefR := ⟨("_law_world" : Str), ("_law_world" : Str), ("_law_world" : Str), none, ["_law_number"], ["_law_number", "_law_boxes", "_law_tables", "_law_k", "_law_t"], defArgs (top_k05 29), defBody (top_k05 29), defScope (top_k05 29), b__law_world, [], [], []⟩
def dk05__law_hidden : DefR := ⟨("_law_hidden" : Str), ("_law_hidden" : Str), ("_law_hidden" : Str), none, ["_law_number"], ["_law_number", "_law_rare", "_law_boxes", "_law_box", "_law_table"], defArgs (top_k05 30), defBody (top_k05 30), defScope (top_k05 30), b__law_hidden, [], [], []⟩
def dk05__law_other : DefR := ⟨("_law_other" : Str), ("_law_other" : Str), ("_law_other" : Str), none, ["_law_world_here", "_law_hidden_here", "_law_number"], ["_law_world_here", "_law_hidden_here", "_law_number", "_law_table", "_law_boxes", "_law_tables", "_law_k", "_law_more", "_law_box", "_law_cell"], defArgs (top_k05 31), defBody (top_k05 31), defScope (top_k05 31), b__law_other_v2, [], [(94, 31), (94, 58)], []⟩
def dk05__law_due : DefR := ⟨("_law_due" : Str), ("_law_due" : Str), ("_law_due" : Str), none, ["_law_hidden_here", "_law_one", "_law_other_here"], ["_law_hidden_here", "_law_one", "_law_other_here", "_law_boxes", "_law_tables", "_law_box", "_law_table", "_law_t"], defArgs (top_k05 32), defBody (top_k05 32), defScope (top_k05 32), b__law_due_v1, [], [], []⟩
def dk05__law_refusal : DefR := ⟨("_law_refusal" : Str), ("_law_refusal" : Str), ("_law_refusal" : Str), none, ["_law_caught"], ["_law_caught", "_law_words", "_law_some", "_law_others"], defArgs (top_k05 33), defBody (top_k05 33), defScope (top_k05 33), b__law_refusal, [], [], []⟩
def dk05__law_differ : DefR := ⟨("_law_differ" : Str), ("_law_differ" : Str), ("_law_differ" : Str), none, ["_law_hidden_here", "_law_one", "_law_other_here"], ["_law_hidden_here", "_law_one", "_law_other_here", "_law_caught", "_law_told", "error"], defArgs (top_k05 34), defBody (top_k05 34), defScope (top_k05 34), b__law_differ, [], [], []⟩
def dk05__law_worlds : DefR := ⟨("_law_worlds" : Str), ("_law_worlds" : Str), ("_law_worlds" : Str), none, ["_law_world_here", "_law_hidden_here"], ["_law_world_here", "_law_hidden_here", "_law_caught", "_law_told", "error"], defArgs (top_k05 35), defBody (top_k05 35), defScope (top_k05 35), b__law_worlds, [], [], []⟩
def dk05__law_all : DefR := ⟨("_law_all" : Str), ("_law_all" : Str), ("_law_all" : Str), none, ["_law_world_here", "_law_hidden_here"], ["_law_world_here", "_law_hidden_here", "_law_found", "_law_many", "_law_number", "_law_boxes", "_law_place", "_law_box"], defArgs (top_k05 36), defBody (top_k05 36), defScope (top_k05 36), b__law_all_v1, [], [], []⟩
def dk05__law_spoilt : DefR := ⟨("_law_spoilt" : Str), ("_law_spoilt" : Str), ("_law_spoilt" : Str), none, ["_law_thing", "_law_number"], ["_law_thing", "_law_number", "_law_flat", "_law_some"], defArgs (top_k05 37), defBody (top_k05 37), defScope (top_k05 37), b__law_spoilt, [], [], []⟩
def dk05__law_truths : DefR := ⟨("_law_truths" : Str), ("_law_truths" : Str), ("_law_truths" : Str), none, ["_law_thing"], ["_law_thing", "_law_one"], defArgs (top_k05 38), defBody (top_k05 38), defScope (top_k05 38), b__law_truths, [], [], []⟩
def dk05__law_twins_are : DefR := ⟨("_law_twins_are" : Str), ("_law_twins_are" : Str), ("_law_twins_are" : Str), none, ["_law_hidden_here", "_law_one", "_law_other_here"], ["_law_hidden_here", "_law_one", "_law_other_here", "_law_twins", "_law_is_new", "_law_due_here", "_law_told", "_law_thing", "_law_twin"], defArgs (top_k05 39), defBody (top_k05 39), defScope (top_k05 39), b__law_twins_are, [], [], []⟩
def dk05__law_spoilt_are : DefR := ⟨("_law_spoilt_are" : Str), ("_law_spoilt_are" : Str), ("_law_spoilt_are" : Str), none, ["_law_hidden_here", "_law_world_here", "_law_other_here", "_law_many", "_law_number"], ["_law_hidden_here", "_law_world_here", "_law_other_here", "_law_many", "_law_number", "_law_more", "_law_bad", "_law_things", "_law_place", "_law_due_here", "_law_step"], defArgs (top_k05 40), defBody (top_k05 40), defScope (top_k05 40), b__law_spoilt_are, [], [], []⟩
def dk05_law : DefR := ⟨("law" : Str), ("law" : Str), ("law" : Str), none, ["_law_script"], ["_law_script", "_law_k", "_law_number", "_law_hidden_here", "_law_world_here", "_law_other_here", "_law_more", "_law_which", "_law_box", "_law_few", "_law_told", "_law_beside", "_law_many"], defArgs (top_k05 41), defBody (top_k05 41), defScope (top_k05 41), b_law_k05, [], [], []⟩
def ds_k05 : List DefR := [dk05_is_among, dk05_is_word, dk05_are_words, dk05_is_world, dk05_is_rising, dk05_is_hidden, dk05_need_world, dk05_need_hidden, dk05_differ_within, dk05_worlds_of, dk05__law_mixed, dk05__law_turned, dk05__law_world, dk05__law_hidden, dk05__law_other, dk05__law_due, dk05__law_refusal, dk05__law_differ, dk05__law_worlds, dk05__law_all, dk05__law_spoilt, dk05__law_truths, dk05__law_twins_are, dk05__law_spoilt_are, dk05_law]
def P_k05 : Prg := ⟨[("ValueError" : Str), ("all" : Str), ("bool" : Str), ("enumerate" : Str), ("int" : Str), ("isinstance" : Str), ("len" : Str), ("list" : Str), ("max" : Str), ("min" : Str), ("range" : Str), ("repr" : Str), ("sorted" : Str), ("tuple" : Str), ("zip" : Str)], [((("is_among" : Str), 3) : Str × Nat), ((("is_word" : Str), 1) : Str × Nat), ((("are_words" : Str), 2) : Str × Nat), ((("is_world" : Str), 1) : Str × Nat), ((("is_rising" : Str), 2) : Str × Nat), ((("is_hidden" : Str), 1) : Str × Nat), ((("need_world" : Str), 1) : Str × Nat), ((("need_hidden" : Str), 1) : Str × Nat), ((("differ_within" : Str), 3) : Str × Nat), ((("worlds_of" : Str), 2) : Str × Nat), ((("_law_mixed" : Str), 2) : Str × Nat), ((("_law_turned" : Str), 2) : Str × Nat), ((("_law_world" : Str), 1) : Str × Nat), ((("_law_hidden" : Str), 1) : Str × Nat), ((("_law_other" : Str), 3) : Str × Nat), ((("_law_due" : Str), 3) : Str × Nat), ((("_law_refusal" : Str), 1) : Str × Nat), ((("_law_differ" : Str), 3) : Str × Nat), ((("_law_worlds" : Str), 2) : Str × Nat), ((("_law_all" : Str), 2) : Str × Nat), ((("_law_spoilt" : Str), 2) : Str × Nat), ((("_law_truths" : Str), 1) : Str × Nat), ((("_law_twins_are" : Str), 3) : Str × Nat), ((("_law_spoilt_are" : Str), 5) : Str × Nat), ((("law" : Str), 1) : Str × Nat)], [((("MOST_WORD" : Str), (.int 15)) : Str × D), ((("MANY_BOXES" : Str), (.int 32)) : Str × D), ((("MANY_TABLES" : Str), (.int 4)) : Str × D), ((("MANY_CELLS" : Str), (.int 16)) : Str × D), ((("MOST_HIDDEN" : Str), (.int 2)) : Str × D)], [], [], [], [("BadHidden" : Str), ("BadWorld" : Str), ("TooMany" : Str)], [((("BadHidden" : Str), ("BadHidden" : Str), true) : Str × Str × Bool), ((("BadHidden" : Str), ("BadMake" : Str), false) : Str × Str × Bool), ((("BadHidden" : Str), ("BadPath" : Str), false) : Str × Str × Bool), ((("BadHidden" : Str), ("BadProgram" : Str), false) : Str × Str × Bool), ((("BadHidden" : Str), ("BadWorld" : Str), false) : Str × Str × Bool), ((("BadHidden" : Str), ("BeatError" : Str), true) : Str × Str × Bool), ((("BadHidden" : Str), ("TooLong" : Str), false) : Str × Str × Bool), ((("BadHidden" : Str), ("TooMany" : Str), false) : Str × Str × Bool), ((("BadHidden" : Str), ("ValueError" : Str), true) : Str × Str × Bool), ((("BadWorld" : Str), ("BadHidden" : Str), false) : Str × Str × Bool), ((("BadWorld" : Str), ("BadMake" : Str), false) : Str × Str × Bool), ((("BadWorld" : Str), ("BadPath" : Str), false) : Str × Str × Bool), ((("BadWorld" : Str), ("BadProgram" : Str), false) : Str × Str × Bool), ((("BadWorld" : Str), ("BadWorld" : Str), true) : Str × Str × Bool), ((("BadWorld" : Str), ("BeatError" : Str), true) : Str × Str × Bool), ((("BadWorld" : Str), ("TooLong" : Str), false) : Str × Str × Bool), ((("BadWorld" : Str), ("TooMany" : Str), false) : Str × Str × Bool), ((("BadWorld" : Str), ("ValueError" : Str), true) : Str × Str × Bool), ((("TooMany" : Str), ("BadHidden" : Str), false) : Str × Str × Bool), ((("TooMany" : Str), ("BadMake" : Str), false) : Str × Str × Bool), ((("TooMany" : Str), ("BadPath" : Str), false) : Str × Str × Bool), ((("TooMany" : Str), ("BadProgram" : Str), false) : Str × Str × Bool), ((("TooMany" : Str), ("BadWorld" : Str), false) : Str × Str × Bool), ((("TooMany" : Str), ("BeatError" : Str), true) : Str × Str × Bool), ((("TooMany" : Str), ("TooLong" : Str), false) : Str × Str × Bool), ((("TooMany" : Str), ("TooMany" : Str), true) : Str × Str × Bool), ((("TooMany" : Str), ("ValueError" : Str), true) : Str × Str × Bool)], []⟩
theorem atk05_is_among (k : Nat) : lev ds_k05 (k + 1) ("is_among" : Str) = bodyF 3 (evTs (lev ds_k05 k) b_is_among) := by kernel_rfl
theorem atk05_is_word (k : Nat) : lev ds_k05 (k + 1) ("is_word" : Str) = bodyF 1 (evTs (lev ds_k05 k) b_is_word) := by kernel_rfl
theorem atk05_are_words (k : Nat) : lev ds_k05 (k + 1) ("are_words" : Str) = bodyF 3 (evTs (lev ds_k05 k) b_are_words) := by kernel_rfl
theorem atk05_is_world (k : Nat) : lev ds_k05 (k + 1) ("is_world" : Str) = bodyF 2 (evTs (lev ds_k05 k) b_is_world) := by kernel_rfl
theorem atk05_is_rising (k : Nat) : lev ds_k05 (k + 1) ("is_rising" : Str) = bodyF 5 (evTs (lev ds_k05 k) b_is_rising) := by kernel_rfl
theorem atk05_is_hidden (k : Nat) : lev ds_k05 (k + 1) ("is_hidden" : Str) = bodyF 1 (evTs (lev ds_k05 k) b_is_hidden) := by kernel_rfl
theorem atk05_need_world (k : Nat) : lev ds_k05 (k + 1) ("need_world" : Str) = bodyF 1 (evTs (lev ds_k05 k) b_need_world) := by kernel_rfl
theorem atk05_need_hidden (k : Nat) : lev ds_k05 (k + 1) ("need_hidden" : Str) = bodyF 1 (evTs (lev ds_k05 k) b_need_hidden) := by kernel_rfl
theorem atk05_differ_within (k : Nat) : lev ds_k05 (k + 1) ("differ_within" : Str) = bodyF 6 (evTs (lev ds_k05 k) b_differ_within) := by kernel_rfl
theorem atk05_worlds_of (k : Nat) : lev ds_k05 (k + 1) ("worlds_of" : Str) = bodyF 7 (evTs (lev ds_k05 k) b_worlds_of_v1) := by kernel_rfl
theorem atk05__law_mixed (k : Nat) : lev ds_k05 (k + 1) ("_law_mixed" : Str) = bodyF 4 (evTs (lev ds_k05 k) b__law_mixed) := by kernel_rfl
theorem atk05__law_turned (k : Nat) : lev ds_k05 (k + 1) ("_law_turned" : Str) = bodyF 3 (evTs (lev ds_k05 k) b__law_turned) := by kernel_rfl
theorem atk05__law_world (k : Nat) : lev ds_k05 (k + 1) ("_law_world" : Str) = bodyF 5 (evTs (lev ds_k05 k) b__law_world) := by kernel_rfl
theorem atk05__law_hidden (k : Nat) : lev ds_k05 (k + 1) ("_law_hidden" : Str) = bodyF 5 (evTs (lev ds_k05 k) b__law_hidden) := by kernel_rfl
theorem atk05__law_other (k : Nat) : lev ds_k05 (k + 1) ("_law_other" : Str) = bodyF 10 (evTs (lev ds_k05 k) b__law_other_v2) := by kernel_rfl
theorem atk05__law_due (k : Nat) : lev ds_k05 (k + 1) ("_law_due" : Str) = bodyF 8 (evTs (lev ds_k05 k) b__law_due_v1) := by kernel_rfl
theorem atk05__law_refusal (k : Nat) : lev ds_k05 (k + 1) ("_law_refusal" : Str) = bodyF 4 (evTs (lev ds_k05 k) b__law_refusal) := by kernel_rfl
theorem atk05__law_differ (k : Nat) : lev ds_k05 (k + 1) ("_law_differ" : Str) = bodyF 6 (evTs (lev ds_k05 k) b__law_differ) := by kernel_rfl
theorem atk05__law_worlds (k : Nat) : lev ds_k05 (k + 1) ("_law_worlds" : Str) = bodyF 5 (evTs (lev ds_k05 k) b__law_worlds) := by kernel_rfl
theorem atk05__law_all (k : Nat) : lev ds_k05 (k + 1) ("_law_all" : Str) = bodyF 8 (evTs (lev ds_k05 k) b__law_all_v1) := by kernel_rfl
theorem atk05__law_spoilt (k : Nat) : lev ds_k05 (k + 1) ("_law_spoilt" : Str) = bodyF 4 (evTs (lev ds_k05 k) b__law_spoilt) := by kernel_rfl
theorem atk05__law_truths (k : Nat) : lev ds_k05 (k + 1) ("_law_truths" : Str) = bodyF 2 (evTs (lev ds_k05 k) b__law_truths) := by kernel_rfl
theorem atk05__law_twins_are (k : Nat) : lev ds_k05 (k + 1) ("_law_twins_are" : Str) = bodyF 9 (evTs (lev ds_k05 k) b__law_twins_are) := by kernel_rfl
theorem atk05__law_spoilt_are (k : Nat) : lev ds_k05 (k + 1) ("_law_spoilt_are" : Str) = bodyF 11 (evTs (lev ds_k05 k) b__law_spoilt_are) := by kernel_rfl
theorem atk05_law (k : Nat) : lev ds_k05 (k + 1) ("law" : Str) = bodyF 13 (evTs (lev ds_k05 k) b_law_k05) := by kernel_rfl
end LB

namespace LB
open PySem L2 PyProof.Rows
theorem law_true_k05 (ns : List Int) (hl : ns.length ≤ 63) : ∃ m, lev ds_k05 9 "law" [.lst (ns.map .int)] ⟨[], []⟩ = .ok (.bl true) m :=
  law5_ok (L := lev ds_k05) ⟨atk05__law_mixed, atk05__law_turned⟩ ⟨atk05__law_world, atk05__law_hidden⟩ ⟨atk05_is_among, atk05_is_word, atk05_are_words, atk05_is_world, atk05_is_rising, atk05_is_hidden⟩ ⟨atk05_need_hidden, atk05_need_world⟩ ⟨atk05_differ_within, atk05_worlds_of⟩ ⟨atk05__law_other, atk05__law_due, atk05__law_refusal, atk05__law_differ, atk05__law_worlds, atk05__law_all, atk05__law_spoilt, atk05__law_truths, atk05__law_twins_are, atk05__law_spoilt_are, atk05_law⟩ 0 hl
end LB

namespace LB
open PySem L2 PyProof.Rows PySem.Spec
namespace Hk05
def fnAt (d : DefR) : He.DefD := ⟨match d.cl with | none => (d.x, none) | some (c, m) => (c, some m), d.nm, d.ql, d.ar, d.body, d.scope, [], []⟩
def fn : List He.DefD := ds_k05.map fnAt ++ []
def cn : List Str := [("BadHidden" : Str), ("BadMake" : Str), ("BadPath" : Str), ("BadProgram" : Str), ("BadWorld" : Str), ("BeatError" : Str), ("TooLong" : Str), ("TooMany" : Str)]
def inn : List Str := []
def faA : List He.Fa := [] ++ ((ds_k05.filter fun d => d.cl.isNone).map fun d => .glo d.x) ++ (P_k05.free.map fun x => .free x)
def faB : List He.Fa := cn.map .glo ++ (inn.flatMap insFa ++ (inn.map .mkr ++ ((ds_k05.filterMap fun d => d.cl.map fun (c, m) => .meth c m) ++ P_k05.exs.map .exc)))
def fa : List He.Fa := faA ++ faB
def ts : List He.Tab := []
def ex (K : PySem.W.Frag) : Bool := noLst K && (mcB K "MOST_WORD" (.int 15) && (mcB K "MANY_BOXES" (.int 32) && (mcB K "MANY_TABLES" (.int 4) && (mcB K "MANY_CELLS" (.int 16) && (mcB K "MOST_HIDDEN" (.int 2) && (P_k05.subs.all (fun (c, c', b) => subB K c c' b && exccB K (He.ga K c)) && (P_k05.exi.all (fun (c, f) => exiB K c f))))))))
abbrev R : PySem.W.OpenRow := PySem.W.OpenLaw.row PySem.Challenge.rw_likebeats_k05_worlds_that_differ
abbrev hk : PySem.W.Hook := hookY 6 fa fn ts ex
def ob (s : PySem.W.SharedT) : He.AlX := obsY 6 fa fn ts ex (HandSHeadRun.getT s)
theorem ob_eq (s : PySem.W.SharedT) : ob s = hk.obs s.abs := obsY_eq (HandSHeadRun.getT_eq s)
def loose : List Str := ([("MOST_WORD" : Str), ("MANY_BOXES" : Str), ("MANY_TABLES" : Str), ("MANY_CELLS" : Str), ("MOST_HIDDEN" : Str), ("BeatError" : Str), ("BadProgram" : Str), ("BadPath" : Str), ("BadWorld" : Str), ("BadHidden" : Str), ("BadMake" : Str), ("TooLong" : Str), ("TooMany" : Str), ("is_among" : Str), ("is_word" : Str), ("are_words" : Str), ("is_world" : Str), ("is_rising" : Str), ("is_hidden" : Str), ("need_world" : Str)] : List Str) ++ ([("need_hidden" : Str), ("differ_within" : Str), ("worlds_of" : Str), ("_law_mixed" : Str), ("_law_turned" : Str), ("_law_world" : Str), ("_law_hidden" : Str), ("_law_other" : Str), ("_law_due" : Str), ("_law_refusal" : Str), ("_law_differ" : Str), ("_law_worlds" : Str), ("_law_all" : Str), ("_law_spoilt" : Str), ("_law_truths" : Str), ("_law_twins_are" : Str), ("_law_spoilt_are" : Str)] : List Str)
theorem run (w : World) : HandSHeadRun.RunEq R (PySem.W.view R.prog [41]) hk ob 12000 loose w := by
  intro os
  kernel_rfl
end Hk05
end LB

namespace LB
open PySem L2 PyProof.Rows PySem.Spec
namespace Hk05
theorem all_ok : ∀ d ∈ ds_k05, d.Ok P_k05 := by
  intro d hd
  simp only [ds_k05, List.mem_cons, List.not_mem_nil, or_false] at hd
  rcases hd with rfl | rfl | rfl | rfl | rfl | rfl | rfl | rfl | rfl | rfl | rfl | rfl | rfl | rfl | rfl | rfl | rfl | rfl | rfl | rfl | rfl | rfl | rfl | rfl | rfl <;>
    exact ⟨⟨300, by kernel_rfl⟩, ⟨rfl, rfl, rfl, by decide +kernel, rfl, by decide +kernel, by decide +kernel⟩, by first | exact nofun | (intro _; exact nofun)⟩
theorem uniq : ∀ d ∈ ds_k05, (ds_k05.find? fun e => decide (e.x = d.x)) = some d := by
  intro d hd
  simp only [ds_k05, List.mem_cons, List.not_mem_nil, or_false] at hd
  rcases hd with rfl | rfl | rfl | rfl | rfl | rfl | rfl | rfl | rfl | rfl | rfl | rfl | rfl | rfl | rfl | rfl | rfl | rfl | rfl | rfl | rfl | rfl | rfl | rfl | rfl <;> kernel_rfl
theorem arity : ∀ d ∈ ds_k05, ∀ (K : PySem.W.Frag) (f : Addr) (fd : FuncData), FunD K d.nm d.ql d.ar d.body d.scope [] [] f fd → Binds K fd d.ps [] := by
  intro d hd K f fd F
  simp only [ds_k05, List.mem_cons, List.not_mem_nil, or_false] at hd
  rcases hd with rfl | rfl | rfl | rfl | rfl | rfl | rfl | rfl | rfl | rfl | rfl | rfl | rfl | rfl | rfl | rfl | rfl | rfl | rfl | rfl | rfl | rfl | rfl | rfl | rfl <;>
    refine F.bindsN fun _ _ _ _ _ _ us hl => ?_ <;> first
      | exact (match us, hl with | [_], _ => rfl)
      | exact (match us, hl with | [_, _], _ => rfl)
      | exact (match us, hl with | [_, _, _], _ => rfl)
      | exact (match us, hl with | [_, _, _, _, _], _ => rfl)
theorem cl_inn : ∀ d ∈ ds_k05, ∀ c m, d.cl = some (c, m) → c ∈ inn := by
  intro d hd
  simp only [ds_k05, List.mem_cons, List.not_mem_nil, or_false] at hd
  rcases hd with rfl | rfl | rfl | rfl | rfl | rfl | rfl | rfl | rfl | rfl | rfl | rfl | rfl | rfl | rfl | rfl | rfl | rfl | rfl | rfl | rfl | rfl | rfl | rfl | rfl <;> intro c m e <;> first | (cases e; decide +kernel) | cases e
theorem inn_cn : ∀ c ∈ inn, c ∈ cn := by decide +kernel
theorem exs_cn : ∀ c ∈ P_k05.exs, c ∈ cn := by decide +kernel
theorem subs_cn : ∀ p ∈ P_k05.subs, p.1 ∈ cn ∧ (if p.2.1 = ("ValueError" : Str) then p.2.1 ∈ P_k05.free else p.2.1 ∈ cn) := by decide +kernel
theorem facts {w : World} {K : PySem.W.Frag} {h : Heap} {mg : Str → Option Value} {f : Addr} (X : K.In h) (G : h.Ns mainGlobals mg) (hfa : mg ("law" : Str) = some (.ref f)) (c : SaysY fa fn ts ex w K) :
    ∃ fd : FuncData, noLst K = true ∧ (∀ (s : Shared) (v : Value), BindsTo s fd ⟨[v], []⟩ [("_law_script", v)]) ∧ ∀ base : Heap, K.In base → base.Ns mainGlobals mg → FnG PySem.Challenge.rw_likebeats_k05_worlds_that_differ.prog w K mg base (2 * (9 + 1)) f fd ["_law_script"] (spF ⟨K, w, mg⟩ 1 (lev ds_k05 9 "law")) := by
  have sd := c.t.d
  have cm := c.more
  unfold ex at cm
  simp only [Bool.and_eq_true] at cm
  obtain ⟨c0, c1, c2, c3, c4, c5, cS, cX⟩ := cm
  have hglo : ∀ d ∈ ds_k05, d.cl = none → mg d.x = some (.ref (He.ga K d.x)) := fun d hd hc => He.glo_ok X G (sd.facts (f := .glo d.x) (List.mem_append_left _ (List.mem_append_left _ (List.mem_append_right _ (List.mem_map.mpr ⟨d, List.mem_filter.mpr ⟨hd, by rw [hc]; rfl⟩, rfl⟩)))))
  have hfree : ∀ x ∈ P_k05.free, mg x = none := fun x hx => He.free_ok X G (sd.facts (f := .free x) (List.mem_append_left _ (List.mem_append_right _ (List.mem_map.mpr ⟨x, hx, rfl⟩))))
  have hcn : ∀ c ∈ cn, mg c = some (.ref (He.ga K c)) := fun c hc => He.glo_ok X G (sd.facts (f := .glo c) (List.mem_append_right _ (List.mem_append_left _ (List.mem_map.mpr ⟨c, hc, rfl⟩))))
  have hins : ∀ c ∈ inn, InsOk K (He.ga K c) := fun c hc => ins_ok fun f hf => sd.facts (List.mem_append_right _ (List.mem_append_right _ (List.mem_append_left _ (List.mem_flatMap.mpr ⟨c, hc, hf⟩))))
  have hmk : ∀ c ∈ inn, Mk K (He.ga K c) (He.ma K (He.ga K c) "__init__") := fun c hc => He.mkr_ok (sd.facts (f := .mkr c) (List.mem_append_right _ (List.mem_append_right _ (List.mem_append_right _ (List.mem_append_left _ (List.mem_map.mpr ⟨c, hc, rfl⟩))))))
  have hmt : ∀ d ∈ ds_k05, ∀ c m, d.cl = some (c, m) → Meth K (He.ga K c) m (He.ma K (He.ga K c) m) := fun d hd c m e => He.meth_ok (sd.facts (f := .meth c m) (List.mem_append_right _ (List.mem_append_right _ (List.mem_append_right _ (List.mem_append_right _ (List.mem_append_left _ (List.mem_filterMap.mpr ⟨d, hd, by rw [e]; rfl⟩)))))))
  have hex : ∀ c ∈ P_k05.exs, ∃ C, mg c = some (.ref C) ∧ ExMk K C := fun c hc => ⟨_, hcn c (exs_cn c hc), exmk_ok (sd.facts (f := .exc c) (List.mem_append_right _ (List.mem_append_right _ (List.mem_append_right _ (List.mem_append_right _ (List.mem_append_right _ (List.mem_map.mpr ⟨c, hc, rfl⟩)))))))⟩
  have hsub : ∀ c c' b, (c, c', b) ∈ P_k05.subs → SubAt K mg c c' b := fun c c' b hm => by
    have q := List.all_eq_true.mp cS _ hm
    simp only [Bool.and_eq_true] at q
    have r := subs_cn _ hm
    refine sub_ok q.1 q.2 (hcn c r.1) ?_
    have r2 := r.2
    dsimp only at r2
    by_cases e : c' = ("ValueError" : Str)
    · rw [if_pos e] at r2 ⊢
      exact hfree _ r2
    · rw [if_neg e] at r2 ⊢
      exact hcn _ r2
  have hdef : ∀ d ∈ ds_k05, ∃ f fd, FunD K d.nm d.ql d.ar d.body d.scope [] [] f fd ∧ d.At K mg f ∧ Binds K fd d.ps [] := fun d hd => by
    obtain ⟨fd, F⟩ := sd.defs (d := fnAt d) (List.mem_append_left _ (List.mem_map.mpr ⟨d, hd, rfl⟩))
    refine ⟨_, fd, F, ?_, arity d hd K _ fd F⟩
    unfold DefR.At
    cases e : d.cl with
    | none =>
      have q : (fnAt d).at_ = (d.x, none) := by unfold fnAt; rw [e]
      show mg d.x = some (.ref (He.fAd K (fnAt d).at_))
      rw [q]
      exact hglo d hd e
    | some p =>
      obtain ⟨c, m⟩ := p
      have q : (fnAt d).at_ = (c, some m) := by unfold fnAt; rw [e]
      have hc := cl_inn d hd c m e
      show ∃ C, mg c = some (.ref C) ∧ InsOk K C ∧ Meth K C m (He.fAd K (fnAt d).at_) ∧ (m = "__init__" → Mk K C (He.fAd K (fnAt d).at_))
      rw [q]
      exact ⟨_, hcn c (inn_cn c hc), hins c hc, hmt d hd c m e, fun em => by subst em; exact hmk c hc⟩
  have hexi : ∀ c f, (c, f) ∈ P_k05.exi → ∃ C, mg c = some (.ref C) ∧ (∀ P base, ExIn P w K mg base C f) ∧ XfC K C := fun c f hm => by
    simp only [P_k05, List.not_mem_nil] at hm
  have hcs : ∀ x d, P_k05.cs.lookup x = some d → ∃ v u, mg x = some u ∧ RelV v u ∧ ∀ G μ N, DV ⟨K, w, mg⟩ G μ N d v := fun x d e => by
    have m := look_in e
    simp only [P_k05, List.mem_cons, List.not_mem_nil, or_false, Prod.mk.injEq] at m
    rcases m with ⟨rfl, rfl⟩ | ⟨rfl, rfl⟩ | ⟨rfl, rfl⟩ | ⟨rfl, rfl⟩ | ⟨rfl, rfl⟩
    · exact mc_at X G c1
    · exact mc_at X G c2
    · exact mc_at X G c3
    · exact mc_at X G c4
    · exact mc_at X G c5
  have ml : dk05_law ∈ ds_k05 := by simp [ds_k05]
  obtain ⟨fd, F⟩ := sd.defs (d := fnAt dk05_law) (List.mem_append_left _ (List.mem_map.mpr ⟨dk05_law, ml, rfl⟩))
  have ef : f = He.ga K "law" := by
    have q' : mg ("law" : Str) = some (.ref (He.ga K "law")) := hglo dk05_law ml rfl
    rw [hfa] at q'
    cases q'
    rfl
  subst ef
  have LH : LevH P_k05 ds_k05 K w mg := ⟨hfree, hcs, by kernel_rfl, by kernel_rfl, by kernel_rfl, uniq, all_ok, hex, hsub, hexi, hdef⟩
  refine ⟨fd, c0, fun s v => ?_, fun base _ _ => lev_body LH (lev_all LH 8) ml F⟩
  exact FunD.bindsA (ps := ["_law_script"]) F (fun _ _ _ _ _ _ us hl => match us, hl with | [_], _ => rfl) s [v] rfl
end Hk05
end LB
open PySem PySem.W PySem.Calls PyProof.Rows
theorem PySem.Challenge.cw_likebeats_k05_worlds_that_differ_holds : PySem.Challenge.rw_likebeats_k05_worlds_that_differ.Holds := by
  w_on; o_law
  refine HandSHeadRun.head_any (r := LB.Hk05.R) (q := view LB.Hk05.R.prog [41]) (H := LB.Hk05.hk) (ob := LB.Hk05.ob) (M := 12000) (loose := LB.Hk05.loose) (d := HandSHeadRun.topDef LB.Hk05.R.prog 41) (kwd := []) LB.Hk05.ob_eq
    (by kernel_rfl) (fun s => by kernel_rfl) LB.Hk05.run (by kernel_rfl) (by kernel_rfl) (by kernel_rfl) (by rfl) (by first | assumption | decide +kernel) (by decide +kernel) ⟨rfl, rfl, rfl, rfl, rfl, by decide +kernel⟩ ?hw ?hc
  case hw => w_witness2
  case hc =>
    refine LB.walkG (l := PySem.Challenge.rw_likebeats_k05_worlds_that_differ) (n := 63) (k := 2 * (9 + 1)) (x := "_law_script") rfl (by decide) (by kernel_rfl) ⟨⟨rfl, by decide, by decide⟩, rfl⟩ ?T
    intro w mg fa h Y G hmg0
    obtain ⟨K, KX, c⟩ := Y
    have hmg : mg ("law" : PySem.Str) = some (.ref fa) := by
      have e : (HandSHeadRun.topDef LB.Hk05.R.prog 41).name = ("law" : PySem.Str) := by kernel_rfl
      rw [← e]
      exact hmg0
    obtain ⟨fd, hno, hb, hF⟩ := LB.Hk05.facts KX G hmg c
    exact ⟨K, fd, LB.lev LB.ds_k05 9 "law", KX, hno, hb, fun ns hl => LB.law_true_k05 ns hl, hF⟩
