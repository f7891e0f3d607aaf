import PyProof.Rows.All
import Wide.All
import OpenK.AllK
import Wide.FinOn
import HandS.ForMost
import HandS.HeadHook4
import HandS.Exc
import HandS.ExcOwn
import HandS.WordsExc
import HandS.Wide
import HandS.IsInst
import HandS.TupAny
import HandS.TupMul
import HandS.Deep
import HandS.Text
import HandS.RaiseMore
import HandS.More
import HandS.Flow
import HandS.Style
import PyProof.DictUpdate
import KE.GoesMore
import KE.GoesEnum
import KE.GoesZip
import KE.KDictZip
import HandS.HeadEnd
import KE.KStateDown
import HandS.Head0
import HandS.Head1
import HandS.Head2
import PySem.Challenge.RW_likebeats_k03_steps_read
set_option Elab.async false
set_option linter.all false
set_option maxRecDepth 100000
set_option maxHeartbeats 0
set_option exponentiation.threshold 5000
namespace LB
open PySem

/-! ### data -/
inductive D where
  | non | bl (b : Bool) | int (i : Int) | str (x : Str) | tup (ds : List D) | lst (ds : List D)
  | ktp (ds : List D)
  | dct (tk : Bool) (kvs : List (D × D)) | ref (n : Nat) | glo (x : Str) | kdc (kvs : List (Str × D))

/-- what a mutable object holds -/
inductive Ob where
  | lst (ds : List D) | dct (tk : Bool) (kvs : List (D × D))
/-- an object of the store -/
inductive SO where
  | ob (o : Ob) | ins (c : Str) (fs : List (Str × D))
/-- a slot: nothing, a value, an object of its own -/
inductive Sl where
  | un | va (d : D) | own (o : Ob)
def Ob.d : Ob → D
  | .lst ds => .lst ds
  | .dct t kvs => .dct t kvs
structure Mst where
  ρ : List Sl
  S : List SO
/-- an exception: its class, its fields -/
structure Xc where
  c : Str
  fs : List (Str × D)
inductive Res (α : Type) where
  | ok (a : α) (m : Mst) | exc (x : Xc) (m : Mst) | no
abbrev Mo (α : Type) := Mst → Res α
def Mo.ret {α : Type} (a : α) : Mo α := fun m => .ok a m
def Res.bind {α β : Type} (r : Res α) (f : α → Mo β) : Res β := match r with
  | .ok a m => f a m
  | .exc x m => .exc x m
  | .no => .no
def Mo.bind {α β : Type} (x : Mo α) (f : α → Mo β) : Mo β := fun m => (x m).bind f
def Mo.no {α : Type} : Mo α := fun _ => .no
def Mo.opt {α : Type} : Option α → Mo α
  | some a => .ret a
  | none => .no
@[simp] theorem Res.bind_ok {α β : Type} (a : α) (m : Mst) (f : α → Mo β) : (Res.ok a m).bind f = f a m := rfl
@[simp] theorem Res.bind_exc {α β : Type} (x : Xc) (m : Mst) (f : α → Mo β) : (Res.exc x m : Res α).bind f = .exc x m := rfl
@[simp] theorem Res.bind_no {α β : Type} (f : α → Mo β) : (Res.no : Res α).bind f = .no := rfl
@[simp] theorem Mo.ret_at {α : Type} (a : α) (m : Mst) : Mo.ret a m = .ok a m := rfl
@[simp] theorem Mo.bind_at {α β : Type} (x : Mo α) (f : α → Mo β) (m : Mst) : Mo.bind x f m = (x m).bind f := rfl
@[simp] theorem Mo.no_at {α : Type} (m : Mst) : (Mo.no : Mo α) m = .no := rfl
@[simp] theorem Mo.opt_some {α : Type} (a : α) (m : Mst) : Mo.opt (some a) m = .ok a m := rfl
@[simp] theorem Mo.opt_none {α : Type} (m : Mst) : (Mo.opt (none : Option α)) m = .no := rfl

/-! ### data looked at -/
mutual
def D.toP : D → PyData
  | .non => .none | .bl b => .bool b | .int i => .int i | .str x => .str x
  | .tup ds => .tuple (D.toPs ds) | .lst ds => .list (D.toPs ds)
  | .ktp ds => .tuple (D.toPs ds)
  | .dct _ _ => .dict [] | .ref _ => .dict [] | .glo _ => .dict [] | .kdc _ => .dict []
def D.toPs : List D → List PyData
  | [] => []
  | d :: r => d.toP :: D.toPs r
end
/-- == of two data, where it is told -/
def eqD (a b : D) : Option Bool := if SeqAt.shaped a.toP && SeqAt.shaped b.toP then some (PyData.eqv a.toP b.toP) else none
/-- a sequence's items -/
def signs (x : Str) : List D := x.cps.toList.map fun c => .str ⟨#[c]⟩
def itemsD : D → Option (List D)
  | .tup ds => some ds
  | .ktp ds => some ds
  | .lst ds => some ds
  | .str x => some (signs x)
  | _ => none
/-- truth -/
def truD : D → Option Bool
  | .non => some false
  | .bl b => some b
  | .int i => some (i != 0)
  | .str x => if x.length ≤ sizeLine then some (x.length != 0) else none
  | .tup ds => some (!ds.isEmpty)
  | .lst ds => some (!ds.isEmpty)
  | _ => none
end LB

namespace LB
open PySem L2

/-- what stands fast: the written part, the world, the module's names -/
structure Stc where
  K : PySem.W.Frag
  w : World
  mg : Str → Option Value
def keyD : D → Option Key
  | .int i => some (.inl i)
  | .str x => some (.inr x)
  | _ => none
def keysD : List D → Option (List Key)
  | [] => some []
  | d :: r => match keyD d, keysD r with
    | some k, some ks => some (k :: ks)
    | _, _ => none
def keyT : D → Option (List Key)
  | .tup ds => keysD ds
  | _ => none

section
variable (Z : Stc) (G : Hp) (μ : Nat → Addr) (N : Nat)
mutual
/-- a datum is borne by a value, over a heap of things that stay -/
inductive DV : D → V → Prop
  | non : DV .non .non
  | bl (b : Bool) : DV (.bl b) (.bl b)
  | int (i : Int) : DV (.int i) (.int i)
  | str (x : Str) : DV (.str x) (.str x)
  | tup {a : Addr} {vs : List V} {ds : List D} : G a = some (.tup vs) → DVs ds vs → DV (.tup ds) (.ref a)
  | ktp {a : Addr} {vs : List V} {ds : List D} : SqT Z.K G a vs → DVs ds vs → DV (.ktp ds) (.ref a)
  | lst {a : Addr} {vs : List V} {ds : List D} : Rd G a (.lst vs) → DVs ds vs → DV (.lst ds) (.ref a)
  | dk {a : Addr} {kvs : List (D × D)} {ks : List (Key × V)} : G a = some (.dK ks) → DVk kvs ks → DV (.dct false kvs) (.ref a)
  | dt {a : Addr} {kvs : List (D × D)} {ks : List (List Key × V)} : G a = some (.dT ks) → DVt kvs ks → DV (.dct true kvs) (.ref a)
  | kd {a : Addr} {kvs : List (Str × D)} {es : Array DictEntry} {n : Nat} : KDict Z.K Z.w a es n → DVe kvs es.toList → DV (.kdc kvs) (.ref a)
  | ref {n : Nat} : n < N → DV (.ref n) (.ref (μ n))
  | glo {x : Str} {a : Addr} : Z.mg x = some (.ref a) → DV (.glo x) (.ref a)
inductive DVs : List D → List V → Prop
  | nil : DVs [] []
  | cons {d : D} {v : V} {ds : List D} {vs : List V} : DV d v → DVs ds vs → DVs (d :: ds) (v :: vs)
inductive DVk : List (D × D) → List (Key × V) → Prop
  | nil : DVk [] []
  | cons {e d : D} {k : Key} {v : V} {ds : List (D × D)} {vs : List (Key × V)} : keyD e = some k → DV d v → DVk ds vs → DVk ((e, d) :: ds) ((k, v) :: vs)
inductive DVt : List (D × D) → List (List Key × V) → Prop
  | nil : DVt [] []
  | cons {e d : D} {k : List Key} {v : V} {ds : List (D × D)} {vs : List (List Key × V)} : keyT e = some k → DV d v → DVt ds vs → DVt ((e, d) :: ds) ((k, v) :: vs)
inductive DVe : List (Str × D) → List DictEntry → Prop
  | nil : DVe [] []
  | cons {d : D} {x : Str} {t : Tok} {v : V} {u : Value} {h : Int} {ds : List (Str × D)} {es : List DictEntry} : RelV v u → DV d v → DVe ds es → DVe ((x, d) :: ds) (⟨h, .str x t, u⟩ :: es)
end
end

/-! ### more is known: what is borne stays borne -/
section
variable {Z : Stc} {G G' : Hp} {μ μ' : Nat → Addr} {N N' : Nat}
structure Mor (G G' : Hp) (μ μ' : Nat → Addr) (N N' : Nat) : Prop where
  g : ∀ a o, G a = some o → G' a = some o
  m : ∀ n, n < N → μ' n = μ n
  n : N ≤ N'
theorem Mor.rfl' : Mor G G μ μ N N := ⟨fun _ _ h => h, fun _ _ => rfl, Nat.le_refl _⟩
theorem Mor.trans {G2 : Hp} {μ2 : Nat → Addr} {N2 : Nat} (a : Mor G G' μ μ' N N') (b : Mor G' G2 μ' μ2 N' N2) : Mor G G2 μ μ2 N N2 :=
  ⟨fun x o h => b.g x o (a.g x o h), fun n h => (b.m n (Nat.lt_of_lt_of_le h a.n)).trans (a.m n h), Nat.le_trans a.n b.n⟩
theorem rd_mor (h : ∀ a o, G a = some o → G' a = some o) {a : Addr} {u : HO} (r : Rd G a u) : Rd G' a u := by
  rcases r with r | ⟨o, r⟩
  · exact .inl (h _ _ r)
  · exact .inr ⟨o, h _ _ r⟩
theorem sqT_mor {K : PySem.W.Frag} (h : ∀ a o, G a = some o → G' a = some o) {a : Addr} {vs : List V} (r : SqT K G a vs) : SqT K G' a vs := r.imp_left (rd_mor h)
theorem sqL_mor {K : PySem.W.Frag} (h : ∀ a o, G a = some o → G' a = some o) {a : Addr} {vs : List V} (r : SqL K G a vs) : SqL K G' a vs := r.imp_left (rd_mor h)
mutual
theorem DV.mor (e : Mor G G' μ μ' N N') : ∀ {d : D} {v : V}, DV Z G μ N d v → DV Z G' μ' N' d v
  | _, _, .non => .non
  | _, _, .bl b => .bl b
  | _, _, .int i => .int i
  | _, _, .str x => .str x
  | _, _, .tup h r => .tup (e.g _ _ h) (DVs.mor e r)
  | _, _, .ktp h r => .ktp (sqT_mor e.g h) (DVs.mor e r)
  | _, _, .lst h r => .lst (rd_mor e.g h) (DVs.mor e r)
  | _, _, .dk h r => .dk (e.g _ _ h) (DVk.mor e r)
  | _, _, .dt h r => .dt (e.g _ _ h) (DVt.mor e r)
  | _, _, .kd h r => .kd h (DVe.mor e r)
  | _, _, .ref h => by rw [← e.m _ h]; exact .ref (Nat.lt_of_lt_of_le h e.n)
  | _, _, .glo h => .glo h
theorem DVs.mor (e : Mor G G' μ μ' N N') : ∀ {d : List D} {v : List V}, DVs Z G μ N d v → DVs Z G' μ' N' d v
  | _, _, .nil => .nil
  | _, _, .cons h r => .cons (DV.mor e h) (DVs.mor e r)
theorem DVk.mor (e : Mor G G' μ μ' N N') : ∀ {d : List (D × D)} {v : List (Key × V)}, DVk Z G μ N d v → DVk Z G' μ' N' d v
  | _, _, .nil => .nil
  | _, _, .cons k h r => .cons k (DV.mor e h) (DVk.mor e r)
theorem DVt.mor (e : Mor G G' μ μ' N N') : ∀ {d : List (D × D)} {v : List (List Key × V)}, DVt Z G μ N d v → DVt Z G' μ' N' d v
  | _, _, .nil => .nil
  | _, _, .cons k h r => .cons k (DV.mor e h) (DVt.mor e r)
theorem DVe.mor (e : Mor G G' μ μ' N N') : ∀ {d : List (Str × D)} {v : List DictEntry}, DVe Z G μ N d v → DVe Z G' μ' N' d v
  | _, _, .nil => .nil
  | _, _, .cons k h r => .cons k (DV.mor e h) (DVe.mor e r)
end
theorem DVs.length : ∀ {d : List D} {v : List V}, DVs Z G μ N d v → d.length = v.length
  | _, _, .nil => rfl
  | _, _, .cons _ r => by rw [List.length_cons, List.length_cons, DVs.length r]
theorem DVk.length : ∀ {d : List (D × D)} {v : List (Key × V)}, DVk Z G μ N d v → d.length = v.length
  | _, _, .nil => rfl
  | _, _, .cons _ _ r => by rw [List.length_cons, List.length_cons, DVk.length r]
theorem DVt.length : ∀ {d : List (D × D)} {v : List (List Key × V)}, DVt Z G μ N d v → d.length = v.length
  | _, _, .nil => rfl
  | _, _, .cons _ _ r => by rw [List.length_cons, List.length_cons, DVt.length r]
theorem DVs.append : ∀ {d e : List D} {v w : List V}, DVs Z G μ N d v → DVs Z G μ N e w → DVs Z G μ N (d ++ e) (v ++ w)
  | _, _, _, _, .nil, q => q
  | _, _, _, _, .cons h r, q => .cons h (DVs.append r q)
theorem DVs.get : ∀ {d : List D} {v : List V} {i : Nat} {x : D}, DVs Z G μ N d v → d[i]? = some x → ∃ y, v[i]? = some y ∧ DV Z G μ N x y
  | _, _, 0, _, .cons h r, e => by cases e; exact ⟨_, rfl, h⟩
  | _, _, i + 1, _, .cons h r, e => DVs.get (i := i) r (by simpa using e)
  | _, _, _, _, .nil, e => by simp at e
theorem DVs.get' : ∀ {d : List D} {v : List V} {i : Nat} {y : V}, DVs Z G μ N d v → v[i]? = some y → ∃ x, d[i]? = some x ∧ DV Z G μ N x y
  | _, _, 0, _, .cons h r, e => by cases e; exact ⟨_, rfl, h⟩
  | _, _, i + 1, _, .cons h r, e => DVs.get' (i := i) r (by simpa using e)
  | _, _, _, _, .nil, e => by simp at e
theorem DVs.take : ∀ {d : List D} {v : List V} (n : Nat), DVs Z G μ N d v → DVs Z G μ N (d.take n) (v.take n)
  | _, _, 0, _ => .nil
  | _, _, _ + 1, .nil => .nil
  | _, _, n + 1, .cons h r => .cons h (DVs.take n r)
theorem DVs.drop : ∀ {d : List D} {v : List V} (n : Nat), DVs Z G μ N d v → DVs Z G μ N (d.drop n) (v.drop n)
  | _, _, 0, h => h
  | _, _, _ + 1, .nil => .nil
  | _, _, n + 1, .cons h r => DVs.drop n r
theorem DVs.reverse : ∀ {d : List D} {v : List V}, DVs Z G μ N d v → DVs Z G μ N d.reverse v.reverse
  | _, _, .nil => .nil
  | _, _, .cons h r => by rw [List.reverse_cons, List.reverse_cons]; exact (DVs.reverse r).append (.cons h .nil)
theorem DVs.set : ∀ {d : List D} {v : List V} {x : D} {y : V} (i : Nat), DVs Z G μ N d v → DV Z G μ N x y → DVs Z G μ N (d.set i x) (v.set i y)
  | _, _, _, _, _, .nil, _ => .nil
  | _, _, _, _, 0, .cons h r, q => .cons q r
  | _, _, _, _, i + 1, .cons h r, q => .cons h (DVs.set i r q)
theorem DVs.ints : ∀ {ns : List Int} {v : List V}, DVs Z G μ N (ns.map .int) v → v = ns.map V.int
  | [], _, .nil => rfl
  | _ :: _, _, .cons (.int _) r => by rw [DVs.ints r]; rfl
end

/-! ### states -/
inductive Ow where
  | sl (i : Nat) | lo (n : Nat) | di (n : Nat)
  deriving DecidableEq
structure Gh where
  G : Hp
  μ : Nat → Addr
  ow : Addr → Option Ow
section
variable (Z : Stc) (g : Gh) (N : Nat)
def ObR : Ob → HO → Prop
  | .lst ds, h => ∃ vs, h = .lst vs ∧ DVs Z g.G g.μ N ds vs
  | .dct false kvs, h => ∃ ks, h = .dK ks ∧ DVk Z g.G g.μ N kvs ks
  | .dct true kvs, h => ∃ ks, h = .dT ks ∧ DVt Z g.G g.μ N kvs ks
def FsR : List (Str × D) → List (Str × V) → Prop
  | [], [] => True
  | (x, d) :: r, (y, v) :: s => x = y ∧ DV Z g.G g.μ N d v ∧ FsR r s
  | _, _ => False
def SlR (σ : St) (H : Hp) (i : Nat) : Sl → Prop
  | .un => True
  | .va d => ∃ v, σ[i]? = some (some v) ∧ DV Z g.G g.μ N d v
  | .own o => ∃ a h, σ[i]? = some (some (.ref a)) ∧ g.ow a = some (.sl i) ∧ H a = some h ∧ ObR Z g N o h
def SoR (H : Hp) (n : Nat) : SO → Prop
  | .ob o => ∃ h, g.ow (g.μ n) = some (.lo n) ∧ H (g.μ n) = some h ∧ ObR Z g N o h
  | .ins c fs => ∃ C dx fs', g.ow (g.μ n) = some (.lo n) ∧ Z.mg c = some (.ref C) ∧ H (g.μ n) = some (.ins C dx fs') ∧ H dx = some (.own (g.μ n)) ∧ g.ow dx = some (.di n) ∧ FsR Z g N fs fs'
end
/-- the store and the things that stay; Fo: what was there and isn't ours -/
structure GoodS (Z : Stc) (Fo : Hp) (g : Gh) (S : List SO) (H : Hp) : Prop where
  gh : ∀ a o, g.G a = some o → H a = some o
  fo : ∀ a o, Fo a = some o → H a = some o
  st : ∀ n o, S[n]? = some o → SoR Z g S.length H n o
  ow : ∀ a w, g.ow a = some w → g.G a = none ∧ Fo a = none ∧ ∃ o, H a = some o
structure Good (Z : Stc) (Fo : Hp) (g : Gh) (m : Mst) (σ : St) (H : Hp) : Prop where
  s : GoodS Z Fo g m.S H
  len : m.ρ.length = σ.length
  sl : ∀ i s, m.ρ[i]? = some s → SlR Z g m.S.length σ H i s
/-- from one state on to another -/
structure Ext (Fo : Hp) (g : Gh) (N : Nat) (g' : Gh) (N' : Nat) : Prop where
  mor : Mor g.G g'.G g.μ g'.μ N N'
  new : ∀ a o, g'.G a = some o → g.G a = some o ∨ Fo a = none
theorem Ext.rfl' {Fo : Hp} {g : Gh} {N : Nat} : Ext Fo g N g N := ⟨.rfl', fun _ _ h => .inl h⟩
theorem Ext.trans {Fo : Hp} {g g1 g2 : Gh} {N N1 N2 : Nat} (a : Ext Fo g N g1 N1) (b : Ext Fo g1 N1 g2 N2) : Ext Fo g N g2 N2 :=
  ⟨a.mor.trans b.mor, fun x o h => (b.new x o h).elim (fun h => a.new x o h) .inr⟩
theorem DV.ext {Z : Stc} {Fo : Hp} {g g' : Gh} {N N' : Nat} {d : D} {v : V} (h : DV Z g.G g.μ N d v) (e : Ext Fo g N g' N') : DV Z g'.G g'.μ N' d v := h.mor e.mor
theorem DVs.ext {Z : Stc} {Fo : Hp} {g g' : Gh} {N N' : Nat} {d : List D} {v : List V} (h : DVs Z g.G g.μ N d v) (e : Ext Fo g N g' N') : DVs Z g'.G g'.μ N' d v := h.mor e.mor

/-- an exception's own fields -/
def ExcR (Z : Stc) (g : Gh) (N : Nat) (x : Xc) (cls : Value) (dd : Option Addr) (H : Hp) : Prop :=
  ∃ C, Z.mg x.c = some (.ref C) ∧ cls = .ref C ∧ (x.fs ≠ [] → ∃ a fs', dd = some a ∧ H a = some (.xd fs') ∧ FsR Z g N x.fs fs')
section
variable (Z : Stc) (Fo : Hp) (W : WX)
/-- what is wanted behind a reckoning: R, how what is told is borne -/
def Pg {α β : Type} (R : Gh → Nat → Hp → α → β → Prop) (g : Gh) (N : Nat) (σ : L2.St) (Q : β → Hp → Prop) : Res α → Prop
  | .ok d m => ∀ v H g', Good Z Fo g' m σ H → Ext Fo g N g' m.S.length → R g' m.S.length H d v → Q v H
  | .exc x m => ∀ cls dd H g', Good Z Fo g' m σ H → Ext Fo g N g' m.S.length → ExcR Z g' m.S.length x cls dd H → W cls dd σ H
  | .no => False
abbrev RD (Z : Stc) : Gh → Nat → Hp → D → V → Prop := fun g N _ d v => DV Z g.G g.μ N d v
abbrev RDs (Z : Stc) : Gh → Nat → Hp → List D → List V → Prop := fun g N _ d v => DVs Z g.G g.μ N d v
abbrev RB : Gh → Nat → Hp → Bool → Bool → Prop := fun _ _ _ a b => a = b
/-- a new object of nobody's -/
abbrev RN (Z : Stc) (Fo : Hp) : Gh → Nat → Hp → Ob → V → Prop := fun g N H o v => ∃ p h, v = .ref p ∧ H p = some h ∧ ObR Z g N o h ∧ g.G p = none ∧ g.ow p = none ∧ Fo p = none
abbrev Po (g : Gh) (N : Nat) (σ : L2.St) (Q : V → Hp → Prop) (r : Res D) : Prop := Pg Z Fo W (RD Z) g N σ Q r
def tE (f : Mo D) : TE := fun σ H Q => ∃ g m, Good Z Fo g m σ H ∧ Pg Z Fo W (RD Z) g m.S.length σ Q (f m)
def tT (f : Mo Bool) : TT := fun σ H Q => ∃ g m, Good Z Fo g m σ H ∧ Pg Z Fo W RB g m.S.length σ Q (f m)
def tN (f : Mo Ob) : TE := fun σ H Q => ∃ g m, Good Z Fo g m σ H ∧ Pg Z Fo W (RN Z Fo) g m.S.length σ Q (f m)
def tL (f : Mo (List D)) : TA := fun σ H Q => ∃ g m, Good Z Fo g m σ H ∧ Pg Z Fo W (RDs Z) g m.S.length σ Q (f m)
end
end LB

namespace LB
open PySem L2

/-! ### a name: as a value it lets go of what it owns -/
def evV (i : Nat) : Mo D := fun m => match m.ρ[i]? with
  | some (.va d) => .ok d m
  | some (.own o) => .ok o.d { m with ρ := m.ρ.set i (.va o.d) }
  | _ => .no
/-- a name looked at where it stands -/
def pkV (i : Nat) (m : Mst) : Option D := match m.ρ[i]? with
  | some (.va d) => some d
  | some (.own o) => some o.d
  | _ => none
/-- a list, a dict of the store, as it stands -/
def look (m : Mst) : D → D
  | .ref n => match m.S[n]? with
    | some (.ob o) => o.d
    | _ => .ref n
  | d => d

section
variable {Z : Stc} {Fo : Hp} {W : WX} {g g' : Gh} {m m' : Mst} {σ : L2.St} {H : Hp} {Q : V → Hp → Prop} {N N' : Nat}

theorem ObR.ext {o : Ob} {h : HO} (x : ObR Z g N o h) (e : Ext Fo g N g' N') : ObR Z g' N' o h := by
  cases o with
  | lst ds => obtain ⟨vs, rfl, r⟩ := x; exact ⟨vs, rfl, r.mor e.mor⟩
  | dct t kvs =>
    cases t with
    | false => obtain ⟨vs, rfl, r⟩ := x; exact ⟨vs, rfl, r.mor e.mor⟩
    | true => obtain ⟨vs, rfl, r⟩ := x; exact ⟨vs, rfl, r.mor e.mor⟩
theorem FsR.ext (e : Ext Fo g N g' N') : ∀ {fs : List (Str × D)} {fv : List (Str × V)}, FsR Z g N fs fv → FsR Z g' N' fs fv
  | [], [], _ => trivial
  | (_, _) :: _, (_, _) :: _, ⟨h1, h2, h3⟩ => ⟨h1, h2.ext e, FsR.ext e h3⟩
  | [], _ :: _, h => h.elim
  | _ :: _, [], h => h.elim
/-- what an object holds, once it stays -/
theorem ObR.dv {o : Ob} {h : HO} {a : Addr} (x : ObR Z g N o h) (e : g.G a = some h) : DV Z g.G g.μ N o.d (.ref a) := by
  cases o with
  | lst ds => obtain ⟨vs, rfl, r⟩ := x; exact .lst (.inl e) r
  | dct t kvs =>
    cases t with
    | false => obtain ⟨vs, rfl, r⟩ := x; exact .dk e r
    | true => obtain ⟨vs, rfl, r⟩ := x; exact .dt e r
section
variable {α β γ δ : Type} {R : Gh → Nat → Hp → α → β → Prop} {R' : Gh → Nat → Hp → γ → δ → Prop}
theorem Pg.imp {r : Res α} {Q Q' : β → Hp → Prop} (h : Pg Z Fo W R g N σ Q r) (q : ∀ v H, Q v H → Q' v H) : Pg Z Fo W R g N σ Q' r := by
  cases r with
  | ok d m => exact fun v H g' G E R => q _ _ (h v H g' G E R)
  | exc x m => exact h
  | no => exact h
theorem Pg.on {r : Res α} {Q : β → Hp → Prop} (h : Pg Z Fo W R g N σ Q r) (e : Ext Fo g N g' N') : Pg Z Fo W R g' N' σ Q r := by
  cases r with
  | ok d m => exact fun v H g2 G E R => h v H g2 G (e.trans E) R
  | exc x m => exact fun c dd H g2 G E R => h c dd H g2 G (e.trans E) R
  | no => exact h
/-- one behind the other -/
theorem Pg.bind {r : Res α} {f : α → Mo γ} {Q : δ → Hp → Prop} (h : Pg Z Fo W R' g N σ Q (r.bind f)) :
    Pg Z Fo W R g N σ (fun v H => ∃ d g' m', Good Z Fo g' m' σ H ∧ Ext Fo g N g' m'.S.length ∧ R g' m'.S.length H d v ∧ r = .ok d m' ∧ Pg Z Fo W R' g' m'.S.length σ Q (f d m')) r := by
  cases r with
  | ok d m => exact fun v H g' G E R => ⟨d, g', m, G, E, R, rfl, Pg.on h E⟩
  | exc x m => exact h
  | no => exact h
end

/-- an owned object stays from now on -/
def Gh.keep (g : Gh) (a : Addr) (h : HO) : Gh := { g with G := upd g.G a h, ow := fun b => if b = a then none else g.ow b }
theorem Gh.keep_ext {a : Addr} {h : HO} (n : g.G a = none) (f : Fo a = none) : Ext Fo g N (g.keep a h) N :=
  ⟨⟨fun b o e => by
      show upd g.G a h b = some o
      rw [upd_ne (ne_of_none e n)]
      exact e, fun _ _ => rfl, Nat.le_refl _⟩, fun b o e => by
    by_cases q : b = a
    · exact .inr (q ▸ f)
    · exact .inl (by rw [← upd_ne (H := g.G) (o := h) q]; exact e)⟩
theorem GoodS.keep {S : List SO} {a : Addr} {h : HO} (G : GoodS Z Fo g S H) (n : g.G a = none) (f : Fo a = none) (e : H a = some h) (nl : ∀ k, g.ow a ≠ some (.lo k)) (nd : ∀ k, g.ow a ≠ some (.di k)) : GoodS Z Fo (g.keep a h) S H := by
  have E : Ext Fo g S.length (g.keep a h) S.length := Gh.keep_ext n f
  refine ⟨fun b o q => ?_, G.fo, fun k o q => ?_, fun b w q => ?_⟩
  · by_cases z : b = a
    · subst z
      have q' : upd g.G b h b = some o := q
      rw [upd_same] at q'
      rw [e, q']
    · exact G.gh b o (by rw [← upd_ne (H := g.G) (o := h) z]; exact q)
  · have x := G.st k o q
    cases o with
    | ob o =>
      obtain ⟨h', x1, x2, x3⟩ := x
      exact ⟨h', by show (if g.μ k = a then none else g.ow (g.μ k)) = _; rw [if_neg (fun z : g.μ k = a => nl k (z ▸ x1))]; exact x1, x2, x3.ext E⟩
    | ins c fs =>
      obtain ⟨C, dx, fs', x1, x2, x3, x4, x5, x6⟩ := x
      refine ⟨C, dx, fs', ?_, x2, x3, x4, ?_, x6.ext E⟩
      · show (if g.μ k = a then none else g.ow (g.μ k)) = _
        rw [if_neg (fun z : g.μ k = a => nl k (z ▸ x1))]; exact x1
      · show (if dx = a then none else g.ow dx) = _
        rw [if_neg (fun z : dx = a => nd k (z ▸ x5))]; exact x5
  · have q' : (if b = a then none else g.ow b) = some w := q
    by_cases z : b = a
    · rw [if_pos z] at q'; cases q'
    · rw [if_neg z] at q'
      obtain ⟨y1, y2, y3⟩ := G.ow b w q'
      exact ⟨by show upd g.G a h b = none; rw [upd_ne z]; exact y1, y2, y3⟩
theorem rd_var {i : Nat} (h : tE Z Fo W (evV i) σ H Q) : tVar i σ H Q := by
  obtain ⟨g, m, G, h⟩ := h
  unfold evV at h
  cases e : m.ρ[i]? with
  | none => rw [e] at h; exact h.elim
  | some s =>
    rw [e] at h
    have x := G.sl i s e
    cases s with
    | un => exact h.elim
    | va d =>
      obtain ⟨v, e1, r⟩ := x
      exact ⟨v, e1, h v H g G .rfl' r⟩
    | own o =>
      obtain ⟨a, u, e1, w1, e2, r⟩ := x
      obtain ⟨n, f, _⟩ := G.s.ow a _ w1
      have E : Ext Fo g m.S.length (g.keep a u) m.S.length := Gh.keep_ext n f
      have dv : DV Z (g.keep a u).G (g.keep a u).μ m.S.length o.d (.ref a) := (r.ext E).dv (show upd g.G a u a = some u from upd_same)
      refine ⟨.ref a, e1, h (.ref a) H (g.keep a u) ⟨G.s.keep n f e2 (fun k z => by rw [w1] at z; cases z) (fun k z => by rw [w1] at z; cases z), by simpa using G.len, fun j s' e' => ?_⟩ E dv⟩
      by_cases z : i = j
      · subst z
        rw [List.getElem?_set_self (by exact (List.getElem?_eq_some_iff.mp e).1)] at e'
        cases e'
        exact ⟨.ref a, e1, dv⟩
      · rw [List.getElem?_set_ne z] at e'
        have x' := G.sl j s' e'
        cases s' with
        | un => trivial
        | va d =>
          obtain ⟨v, q1, q2⟩ := x'
          exact ⟨v, q1, q2.ext E⟩
        | own o' =>
          obtain ⟨a', u', q1, q2, q3, q4⟩ := x'
          refine ⟨a', u', q1, ?_, q3, q4.ext E⟩
          show (if a' = a then none else g.ow a') = _
          rw [if_neg (fun y => by rw [y, w1] at q2; cases q2; exact z rfl)]
          exact q2

/-! ### operands: looked at only -/
/-- a datum as it can be looked at now -/
def PV (Z : Stc) (g : Gh) (N : Nat) (H : Hp) (d : D) (v : V) : Prop := DV Z g.G g.μ N d v ∨ ∃ a h o, v = .ref a ∧ H a = some h ∧ d = Ob.d o ∧ ObR Z g N o h
theorem pv_look {d : D} {v : V} (G : Good Z Fo g m σ H) (r : DV Z g.G g.μ m.S.length d v) : PV Z g m.S.length H (look m d) v := by
  cases d with
  | ref n =>
    show PV Z g m.S.length H (match m.S[n]? with | some (.ob o) => o.d | _ => .ref n) v
    cases e : m.S[n]? with
    | none => exact .inl r
    | some s =>
      cases s with
      | ins c fs => exact .inl r
      | ob o =>
        obtain ⟨h, x1, x2, x3⟩ := G.s.st n _ e
        cases r with
        | ref q => exact .inr ⟨_, h, o, rfl, x2, rfl, x3⟩
  | _ => exact .inl r
theorem pv_slot {i : Nat} {d : D} {v : V} (G : Good Z Fo g m σ H) (e : pkV i m = some d) (ev : σ[i]? = some (some v)) : PV Z g m.S.length H (look m d) v := by
  unfold pkV at e
  cases e1 : m.ρ[i]? with
  | none => rw [e1] at e; cases e
  | some s =>
    rw [e1] at e
    have x := G.sl i s e1
    cases s with
    | un => cases e
    | va d' =>
      cases e
      obtain ⟨v', q1, q2⟩ := x
      rw [ev] at q1
      cases q1
      exact pv_look G q2
    | own o =>
      cases e
      obtain ⟨a, h, q1, q2, q3, q4⟩ := x
      rw [ev] at q1
      cases q1
      refine .inr ⟨a, h, o, rfl, q3, ?_, q4⟩
      cases o <;> rfl

/-- an operand: a name's place, or what is reckoned -/
abbrev Opd := Option Nat × Mo D
def tO (Z : Stc) (Fo : Hp) (W : WX) (o : Opd) : TE := match o.1 with
  | some i => tVar i
  | none => tE Z Fo W o.2
def Opd.pre (o : Opd) : Mo D := match o.1 with
  | some i => fun m => match pkV i m with
    | some _ => .ok .non m
    | none => .no
  | none => o.2
def Opd.get (o : Opd) (d : D) (m : Mst) : Option D := match o.1 with
  | some i => (pkV i m).map (look m)
  | none => some (look m d)
def opd1 {γ : Type} (a : Opd) (op : D → Mo γ) : Mo γ := fun m => (a.pre m).bind fun x m => match a.get x m with
  | some d => op d m
  | none => .no
def opd2 {γ : Type} (a b : Opd) (op : D → D → Mo γ) : Mo γ := fun m => (a.pre m).bind fun x m => (b.pre m).bind fun y m => match a.get x m, b.get y m with
  | some d, some e => op d e m
  | _, _ => .no
section
variable {γ δ : Type} {R' : Gh → Nat → Hp → γ → δ → Prop} {P : δ → Hp → Prop}
/-- the operand's pass: afterwards its value can be looked at in any later state -/
theorem opd_pass {o : Opd} {f : D → Mo γ} {R : V → Hp → Prop} (G : Good Z Fo g m σ H) (h : Pg Z Fo W R' g m.S.length σ P ((o.pre m).bind f))
    (k : ∀ v H' d g' m', Good Z Fo g' m' σ H' → Ext Fo g m.S.length g' m'.S.length → Pg Z Fo W R' g' m'.S.length σ P (f d m') →
      (∀ g2 m2 H2 e, Good Z Fo g2 m2 σ H2 → Ext Fo g' m'.S.length g2 m2.S.length → o.get d m2 = some e → PV Z g2 m2.S.length H2 e v) → R v H') : tO Z Fo W o σ H R := by
  obtain ⟨oi, fo⟩ := o
  cases oi with
  | none =>
    refine ⟨g, m, G, (Pg.bind (R := RD Z) h).imp fun v H' ⟨d, g', m', G', E, r, _, p⟩ => k v H' d g' m' G' E p fun g2 m2 H2 e G2 E2 q => ?_⟩
    cases q
    exact pv_look G2 (r.ext E2)
  | some i =>
    have h' : Pg Z Fo W R' g m.S.length σ P ((match pkV i m with | some _ => Res.ok D.non m | none => Res.no).bind f) := h
    cases e : pkV i m with
    | none => rw [e] at h'; exact h'.elim
    | some d0 =>
      rw [e] at h'
      have hv : ∃ v, σ[i]? = some (some v) := by
        unfold pkV at e
        cases e1 : m.ρ[i]? with
        | none => rw [e1] at e; cases e
        | some s =>
          rw [e1] at e
          have x := G.sl i s e1
          cases s with
          | un => cases e
          | va d' => obtain ⟨v', q1, q2⟩ := x; exact ⟨v', q1⟩
          | own o => obtain ⟨a, h, q1, q2, q3, q4⟩ := x; exact ⟨_, q1⟩
      obtain ⟨v, ev⟩ := hv
      refine ⟨v, ev, k v H .non g m G .rfl' h' fun g2 m2 H2 e2 G2 E2 q => ?_⟩
      have q' : (pkV i m2).map (look m2) = some e2 := q
      cases e3 : pkV i m2 with
      | none => rw [e3] at q'; cases q'
      | some d3 =>
        rw [e3] at q'
        cases q'
        exact pv_slot G2 e3 ev
theorem rd_opd1 {a : Opd} {op : D → Mo γ} {r : V → Hp → Prop} (G : Good Z Fo g m σ H) (h : Pg Z Fo W R' g m.S.length σ P (opd1 a op m))
    (hop : ∀ g' m' H x d, Good Z Fo g' m' σ H → Ext Fo g m.S.length g' m'.S.length → PV Z g' m'.S.length H d x → Pg Z Fo W R' g' m'.S.length σ P (op d m') → r x H) : tO Z Fo W a σ H r := by
  refine opd_pass G h fun v H' d g' m' G' E p pv => ?_
  cases e : a.get d m' with
  | none => simp only [e] at p; exact p.elim
  | some x =>
    simp only [e] at p
    exact hop g' m' H' v x G' E (pv g' m' H' x G' .rfl' e) p
theorem rd_opd2 {a b : Opd} {op : D → D → Mo γ} {r : V → V → Hp → Prop} (G : Good Z Fo g m σ H) (h : Pg Z Fo W R' g m.S.length σ P (opd2 a b op m))
    (hop : ∀ g' m' H x y d e, Good Z Fo g' m' σ H → Ext Fo g m.S.length g' m'.S.length → PV Z g' m'.S.length H d x → PV Z g' m'.S.length H e y → Pg Z Fo W R' g' m'.S.length σ P (op d e m') → r x y H) :
    tO Z Fo W a σ H fun x H1 => tO Z Fo W b σ H1 fun y H2 => r x y H2 := by
  refine opd_pass G h fun v H' d g' m' G' E p pv => opd_pass G' p fun v2 H2 d2 g2 m2 G2 E2 p2 pv2 => ?_
  cases e : a.get d m2 with
  | none => simp only [e] at p2; exact p2.elim
  | some x =>
    cases e2 : b.get d2 m2 with
    | none => simp only [e, e2] at p2; exact p2.elim
    | some y =>
      simp only [e, e2] at p2
      exact hop g2 m2 H2 v v2 x y G2 (E.trans E2) (pv g2 m2 H2 x G2 E2 e) (pv2 g2 m2 H2 y G2 .rfl' e2) p2
end

/-! ### something new -/
theorem Good.fresh (G : Good Z Fo g m σ H) {p : Addr} {o : HO} (n : H p = none) : Good Z Fo g m σ (upd H p o) := by
  have ne : ∀ {b : Addr} {u : HO}, H b = some u → upd H p o b = some u := fun {b u} e => by
    rw [upd_ne (ne_of_none e n)]
    exact e
  refine ⟨⟨fun a u q => ne (G.s.gh a u q), fun a u q => ne (G.s.fo a u q), fun k s q => ?_, fun a w q => ?_⟩, G.len, fun i s q => ?_⟩
  · have x := G.s.st k s q
    cases s with
    | ob o => obtain ⟨h, x1, x2, x3⟩ := x; exact ⟨h, x1, ne x2, x3⟩
    | ins c fs => obtain ⟨C, dx, fs', x1, x2, x3, x4, x5, x6⟩ := x; exact ⟨C, dx, fs', x1, x2, ne x3, ne x4, x5, x6⟩
  · obtain ⟨y1, y2, u, y3⟩ := G.s.ow a w q
    exact ⟨y1, y2, u, ne y3⟩
  · have x := G.sl i s q
    cases s with
    | un => trivial
    | va d => exact x
    | own o => obtain ⟨a, h, x1, x2, x3, x4⟩ := x; exact ⟨a, h, x1, x2, ne x3, x4⟩
theorem Good.free (G : Good Z Fo g m σ H) {p : Addr} (n : H p = none) : g.G p = none ∧ g.ow p = none ∧ Fo p = none := by
  refine ⟨?_, ?_, ?_⟩
  · cases e : g.G p with
    | none => rfl
    | some o => rw [G.s.gh p o e] at n; cases n
  · cases e : g.ow p with
    | none => rfl
    | some o => obtain ⟨_, _, u, y⟩ := G.s.ow p o e; rw [y] at n; cases n
  · cases e : Fo p with
    | none => rfl
    | some o => rw [G.s.fo p o e] at n; cases n
/-- a thing of nobody's stays from now on -/
theorem Good.stay (G : Good Z Fo g m σ H) {p : Addr} {h : HO} (n : g.G p = none) (w : g.ow p = none) (f : Fo p = none) (e : H p = some h) : Good Z Fo (g.keep p h) m σ H := by
  have E : Ext Fo g m.S.length (g.keep p h) m.S.length := Gh.keep_ext n f
  refine ⟨G.s.keep n f e (fun k z => by rw [w] at z; cases z) (fun k z => by rw [w] at z; cases z), G.len, fun i s q => ?_⟩
  have x := G.sl i s q
  cases s with
  | un => trivial
  | va d =>
    obtain ⟨v, q1, q2⟩ := x
    exact ⟨v, q1, q2.ext E⟩
  | own o' =>
    obtain ⟨a', u', q1, q2, q3, q4⟩ := x
    refine ⟨a', u', q1, ?_, q3, q4.ext E⟩
    show (if a' = p then none else g.ow a') = _
    rw [if_neg (fun y => by rw [y, w] at q2; cases q2)]
    exact q2
/-- a new thing that stays -/
theorem Good.laid (G : Good Z Fo g m σ H) {p : Addr} {h : HO} (n : H p = none) : Good Z Fo (g.keep p h) m σ (upd H p h) ∧ Ext Fo g m.S.length (g.keep p h) m.S.length := by
  obtain ⟨f1, f2, f3⟩ := G.free n
  exact ⟨(G.fresh n).stay f1 f2 f3 upd_same, Gh.keep_ext f1 f3⟩
/-- what is new is told, and stays -/
theorem rd_new {f : Mo Ob} (h : tE Z Fo W (f.bind fun o => .ret o.d) σ H Q) : tN Z Fo W f σ H Q := by
  obtain ⟨g, m, G, h⟩ := h
  refine ⟨g, m, G, (Pg.bind (R := RN Z Fo) h).imp fun v H' ⟨o, g', m', G', E, ⟨p, u, ev, e, r, n, w, fo⟩, _, q⟩ => ?_⟩
  subst ev
  have E' : Ext Fo g' m'.S.length (g'.keep p u) m'.S.length := Gh.keep_ext n fo
  exact q (.ref p) H' (g'.keep p u) (G'.stay n w fo e) E' ((r.ext E').dv (show upd g'.G p u p = some u from upd_same))
end
end LB

namespace LB
open PySem L2

section
variable {Z : Stc} {Fo : Hp} {W : WX} {g g' : Gh} {m m' : Mst} {σ : L2.St} {H : Hp} {Q : V → Hp → Prop} {N N' : Nat}
/-! ### what an operand is -/
theorem PV.lst {ds : List D} {v : V} (G : Good Z Fo g m σ H) (r : PV Z g m.S.length H (.lst ds) v) : ∃ a vs, v = .ref a ∧ Rd H a (.lst vs) ∧ DVs Z g.G g.μ m.S.length ds vs := by
  rcases r with r | ⟨a, h, o, rfl, e, eo, r⟩
  · cases r with
    | lst h r => exact ⟨_, _, rfl, rd_mor G.s.gh h, r⟩
  · cases o with
    | lst ds' =>
      cases eo
      obtain ⟨vs, rfl, r⟩ := r
      exact ⟨a, vs, rfl, .inl e, r⟩
    | dct t k => cases eo
theorem PV.tup' {ds : List D} {v : V} (G : Good Z Fo g m σ H) (r : PV Z g m.S.length H (.tup ds) v) : ∃ a vs, v = .ref a ∧ H a = some (.tup vs) ∧ g.G a = some (.tup vs) ∧ DVs Z g.G g.μ m.S.length ds vs := by
  rcases r with r | ⟨a, h, o, rfl, e, eo, r⟩
  · cases r with
    | tup h r => exact ⟨_, _, rfl, G.s.gh _ _ h, h, r⟩
  · cases o <;> cases eo
theorem PV.tup {ds : List D} {v : V} (G : Good Z Fo g m σ H) (r : PV Z g m.S.length H (.tup ds) v) : ∃ a vs, v = .ref a ∧ SqT Z.K H a vs ∧ g.G a = some (.tup vs) ∧ DVs Z g.G g.μ m.S.length ds vs := by
  obtain ⟨a, vs, e, h, q, r⟩ := r.tup' G
  exact ⟨a, vs, e, .inl (.inl h), q, r⟩
theorem PV.ktp {ds : List D} {v : V} (G : Good Z Fo g m σ H) (r : PV Z g m.S.length H (.ktp ds) v) : ∃ a vs, v = .ref a ∧ SqT Z.K H a vs ∧ DVs Z g.G g.μ m.S.length ds vs := by
  rcases r with r | ⟨a, h, o, rfl, e, eo, r⟩
  · cases r with
    | ktp h r => exact ⟨_, _, rfl, sqT_mor G.s.gh h, r⟩
  · cases o <;> cases eo
theorem PV.int {i : Int} {v : V} (r : PV Z g N H (.int i) v) : v = .int i := by
  rcases r with r | ⟨a, h, o, rfl, e, eo, r⟩
  · cases r; rfl
  · cases o <;> cases eo
theorem PV.str {i : Str} {v : V} (r : PV Z g N H (.str i) v) : v = .str i := by
  rcases r with r | ⟨a, h, o, rfl, e, eo, r⟩
  · cases r; rfl
  · cases o <;> cases eo
theorem PV.bl {i : Bool} {v : V} (r : PV Z g N H (.bl i) v) : v = .bl i := by
  rcases r with r | ⟨a, h, o, rfl, e, eo, r⟩
  · cases r; rfl
  · cases o <;> cases eo
theorem PV.non {v : V} (r : PV Z g N H .non v) : v = .non := by
  rcases r with r | ⟨a, h, o, rfl, e, eo, r⟩
  · cases r; rfl
  · cases o <;> cases eo
/-- an operand that isn't a mutable object is a value -/
theorem PV.dv {d : D} {v : V} (r : PV Z g N H d v) (n : ∀ o : Ob, d ≠ o.d) : DV Z g.G g.μ N d v := by
  rcases r with r | ⟨a, h, o, _, _, eo, _⟩
  · exact r
  · exact absurd eo (n o)
/-- an operand with a nature as data -/
theorem DV.dp {K : PySem.W.Frag} (hK : Z.K = K) (gh : ∀ a o, g.G a = some o → H a = some o) : ∀ {d : D} {v : V}, DV Z g.G g.μ N d v → d.toP.canLay0 = true → Dp K H v d.toP := by
  subst hK
  intro d v r
  exact DV.rec (motive_1 := fun d v _ => d.toP.canLay0 = true → Dp Z.K H v d.toP) (motive_2 := fun ds vs _ => PyData.canLayAll0 (D.toPs ds) = true → DpAll Z.K H vs (D.toPs ds)) (motive_3 := fun _ _ _ => True) (motive_4 := fun _ _ _ => True) (motive_5 := fun _ _ _ => True)
    (fun _ => .non) (fun b _ => .bl b) (fun i _ => .int i) (fun x _ => .str x)
    (fun h _ ih c => .tup (.inl (.inl (gh _ _ h))) (ih (by simpa [D.toP, PyData.canLay0] using c)))
    (fun h _ ih c => .tup (sqT_mor gh h) (ih (by simpa [D.toP, PyData.canLay0] using c)))
    (fun h _ ih c => .lst (.inl (rd_mor gh h)) (ih (by simpa [D.toP, PyData.canLay0] using c)))
    (fun _ _ _ c => by simp [D.toP, PyData.canLay0] at c) (fun _ _ _ c => by simp [D.toP, PyData.canLay0] at c) (fun _ _ _ c => by simp [D.toP, PyData.canLay0] at c) (fun _ c => by simp [D.toP, PyData.canLay0] at c) (fun _ c => by simp [D.toP, PyData.canLay0] at c)
    (fun _ => .nil) (fun _ _ ih1 ih2 c => by
      simp only [D.toPs, PyData.canLayAll0, Bool.and_eq_true] at c
      exact .cons (ih1 c.1) (ih2 c.2))
    trivial (fun _ _ _ _ _ => trivial) trivial (fun _ _ _ _ _ => trivial) trivial (fun _ _ _ _ _ => trivial) r
theorem DVs.dp {K : PySem.W.Frag} (hK : Z.K = K) (gh : ∀ a o, g.G a = some o → H a = some o) : ∀ {d : List D} {v : List V}, DVs Z g.G g.μ N d v → PyData.canLayAll0 (D.toPs d) = true → DpAll K H v (D.toPs d)
  | _, _, .nil, _ => .nil
  | _, _, .cons h r, c => by
    simp only [D.toPs, PyData.canLayAll0, Bool.and_eq_true] at c
    exact .cons (DV.dp hK gh h c.1) (DVs.dp hK gh r c.2)
theorem PV.dp {d : D} {v : V} (G : Good Z Fo g m σ H) (r : PV Z g m.S.length H d v) (c : d.toP.canLay0 = true) : Dp Z.K H v d.toP := by
  rcases r with r | ⟨a, h, o, rfl, e, eo, r⟩
  · exact DV.dp rfl G.s.gh r c
  · subst eo
    cases o with
    | lst ds =>
      obtain ⟨vs, rfl, r⟩ := r
      exact .lst (.inl (.inl e)) (DVs.dp rfl G.s.gh r (by simpa [Ob.d, D.toP, PyData.canLay0] using c))
    | dct t k => simp [Ob.d, D.toP, PyData.canLay0] at c

/-! ### + - * and so on -/
inductive BOp where
  | add | sub | mul | mod | fdiv | pow | band | bor | bxor | shl | shr
def BOp.op : BOp → Operator
  | .add => .Add | .sub => .Sub | .mul => .Mult | .mod => .Mod | .fdiv => .FloorDiv | .pow => .Pow | .band => .BitAnd | .bor => .BitOr | .bxor => .BitXor | .shl => .LShift | .shr => .RShift
def MulOk (i j : Int) : Prop := (i.natAbs < 2 ^ 64 ∨ j.natAbs < 2 ^ 64) ∨ (i.natAbs < 2 ^ 4000 ∧ j.natAbs < 2 ^ 4000)
instance (i j : Int) : Decidable (MulOk i j) := inferInstanceAs (Decidable (_ ∨ _))
def DivOk (j : Int) : Prop := 0 < j ∧ (j < 1073741824 ∨ j.natAbs < 2 ^ 4000)
instance (j : Int) : Decidable (DivOk j) := inferInstanceAs (Decidable (_ ∧ _))
def PowOk (i j : Int) : Prop := 0 ≤ j ∧ j ≤ 1000000 ∧ i.natAbs < 2 ^ 64
instance (i j : Int) : Decidable (PowOk i j) := inferInstanceAs (Decidable (_ ∧ _))
def bopM : BOp → D → D → Mo D
  | .add, .int i, .int j => .ret (.int (i + j))
  | .add, .str x, .str y => fun m => if x.length + y.length ≤ sizeLine then .ok (.str (x ++ y)) m else .no
  | .add, .tup x, .tup y => fun m => if x.length + y.length ≤ sizeLine then .ok (.tup (x ++ y)) m else .no
  | .sub, .int i, .int j => .ret (.int (i - j))
  | .mul, .int i, .int j => fun m => if MulOk i j then .ok (.int (i * j)) m else .no
  | .mul, .tup x, .int k => fun m => if x ≠ [] ∧ 2 ≤ k ∧ k ≤ 1000 ∧ x.length ≤ 1000 then .ok (.tup (List.replicate k.toNat x).flatten) m else .no
  | .mod, .int i, .int j => fun m => if 0 < j then .ok (.int (i % j)) m else .no
  | .fdiv, .int i, .int j => fun m => if DivOk j then .ok (.int (i / j)) m else .no
  | .pow, .int i, .int j => fun m => if PowOk i j then .ok (.int (i ^ j.toNat)) m else .no
  | .band, .int i, .int j => .ret (.int (Builtin.bitAnd i j))
  | .bor, .int i, .int j => .ret (.int (Builtin.bitOr i j))
  | .bxor, .int i, .int j => .ret (.int (Builtin.bitXor i j))
  | .shl, .int i, .int j => fun m => if PowOk i j then .ok (.int (i * 2 ^ j.toNat)) m else .no
  | .shr, .int i, .int j => fun m => if 0 ≤ j then .ok (.int (i / 2 ^ j.toNat)) m else .no
  | _, _, _ => .no
/-- list + list, list * int: something new -/
def bopN : BOp → D → D → Mo Ob
  | .add, .lst x, .lst y => fun m => if x.length + y.length ≤ sizeLine then .ok (.lst (x ++ y)) m else .no
  | .mul, .lst x, .int k => fun m => if 0 ≤ k ∧ k < 2 ^ 63 ∧ x.length * k.toNat ≤ sizeLine then .ok (.lst (List.replicate k.toNat x).flatten) m else .no
  | _, _, _ => .no

/-- a rule over what two operands are -/
def rM {γ δ : Type} (Z : Stc) (Fo : Hp) (W : WX) (R : Gh → Nat → Hp → γ → δ → Prop) (f : D → D → Mo γ) (x y : V) (H : Hp) (Q : δ → Hp → Prop) : Prop :=
  ∃ g m σ d e, Good Z Fo g m σ H ∧ PV Z g m.S.length H d x ∧ PV Z g m.S.length H e y ∧ Pg Z Fo W R g m.S.length σ Q (f d e m)
def rM1 {γ δ : Type} (Z : Stc) (Fo : Hp) (W : WX) (R : Gh → Nat → Hp → γ → δ → Prop) (f : D → Mo γ) (x : V) (H : Hp) (Q : δ → Hp → Prop) : Prop :=
  ∃ g m σ d, Good Z Fo g m σ H ∧ PV Z g m.S.length H d x ∧ Pg Z Fo W R g m.S.length σ Q (f d m)
end
theorem _root_.L2.PE.imp {X : Cx} {e : Expr} {t t' : TE} (h : PE X e t) (q : ∀ σ H Q, t' σ H Q → t σ H Q) : PE X e t' := ⟨fun pins s σ H Q I k => h.run pins s σ H Q I (q σ H Q k)⟩
theorem _root_.L2.PT.imp {X : Cx} {e : Expr} {t t' : TT} (h : PT X e t) (q : ∀ σ H Q, t' σ H Q → t σ H Q) : PT X e t' := ⟨fun pins s σ H Q I k => h.run pins s σ H Q I (q σ H Q k)⟩
theorem _root_.L2.PA.imp {X : Cx} {e : List Expr} {t t' : TA} (h : PA X e t) (q : ∀ σ H Q, t' σ H Q → t σ H Q) : PA X e t' := ⟨fun pos pins s σ H Q I k => h.run pos pins s σ H Q I (q σ H Q k)⟩
section
variable {Z : Stc} {Fo : Hp} {W : WX} {X : Cx}
theorem flat_rep {g : Gh} {N : Nat} {ds : List D} {vs : List V} (h : DVs Z g.G g.μ N ds vs) : ∀ k : Nat, DVs Z g.G g.μ N (List.replicate k ds).flatten (List.replicate k vs).flatten
  | 0 => .nil
  | k + 1 => by rw [List.replicate_succ, List.replicate_succ, List.flatten_cons, List.flatten_cons]; exact h.append (flat_rep h k)
theorem bop_rule (hK : X.K = Z.K) (o : BOp) : OpR X (binaryOp o.op) (rM Z Fo W (RD Z) (bopM o)) := by
  intro pins s σ H x y v u Q I rx ry ⟨g, m, σ', d, e, G, pd, pe, h⟩
  have new : ∀ {xs : List D} {vs : List V}, DVs Z g.G g.μ m.S.length xs vs → Pg Z Fo W (RD Z) g m.S.length σ' Q (.ok (.tup xs) m) → ∀ p, H p = none → Q (.ref p) (upd H p (.tup vs)) := fun {xs vs} r h p n => by
    obtain ⟨G2, E2⟩ := G.laid (h := .tup vs) n
    exact h _ _ _ G2 E2 (.tup (show upd g.G p _ p = _ from upd_same) (r.ext E2))
  have i2 : ∀ {i j k : Int}, Pg Z Fo W (RD Z) g m.S.length σ' Q (.ok (.int k) m) → Q (.int k) H := fun h => h _ _ _ G .rfl' (.int _)
  match o, d, e, h with
  | .add, .int i, .int j, h => exact op_add pins s σ H x y v u Q I rx ry ⟨i, j, pd.int, pe.int, i2 (i := i) (j := j) h⟩
  | .sub, .int i, .int j, h => exact op_sub pins s σ H x y v u Q I rx ry ⟨i, j, pd.int, pe.int, i2 (i := i) (j := j) h⟩
  | .band, .int i, .int j, h => exact op_and pins s σ H x y v u Q I rx ry ⟨i, j, pd.int, pe.int, i2 (i := i) (j := j) h⟩
  | .bor, .int i, .int j, h => exact op_or pins s σ H x y v u Q I rx ry ⟨i, j, pd.int, pe.int, i2 (i := i) (j := j) h⟩
  | .bxor, .int i, .int j, h => exact op_xor pins s σ H x y v u Q I rx ry ⟨i, j, pd.int, pe.int, i2 (i := i) (j := j) h⟩
  | .mul, .int i, .int j, h =>
    by_cases c : MulOk i j
    · simp only [bopM, if_pos c] at h
      rcases c with c | ⟨c1, c2⟩
      · exact op_mul pins s σ H x y v u Q I rx ry ⟨i, j, pd.int, pe.int, c.imp (fun c => by omega) (fun c => by omega), i2 (i := i) (j := j) h⟩
      · exact op_mulW pins s σ H x y v u Q I rx ry ⟨i, j, pd.int, pe.int, wide_mul c1 c2 (by decide) (by decide) (by decide), i2 (i := i) (j := j) h⟩
    · simp only [bopM, if_neg c] at h
      exact h.elim
  | .mod, .int i, .int j, h =>
    by_cases c : 0 < j
    · simp only [bopM, if_pos c] at h
      exact op_mod pins s σ H x y v u Q I rx ry ⟨i, j, pd.int, pe.int, c, i2 (i := i) (j := j) h⟩
    · simp only [bopM, if_neg c] at h
      exact h.elim
  | .fdiv, .int i, .int j, h =>
    by_cases c : DivOk j
    · simp only [bopM, if_pos c] at h
      obtain ⟨c0, c1 | c2⟩ := c
      · exact op_fdiv pins s σ H x y v u Q I rx ry ⟨i, j, pd.int, pe.int, ⟨c0, c1⟩, i2 (i := i) (j := j) h⟩
      · exact op_fdivW pins s σ H x y v u Q I rx ry ⟨i, j, pd.int, pe.int, wide_div c0 c2 (by decide) (by decide), i2 (i := i) (j := j) h⟩
    · simp only [bopM, if_neg c] at h
      exact h.elim
  | .pow, .int i, .int j, h =>
    by_cases c : PowOk i j
    · simp only [bopM, if_pos c] at h
      exact op_pow pins s σ H x y v u Q I rx ry ⟨i, j, pd.int, pe.int, c, i2 (i := i) (j := j) h⟩
    · simp only [bopM, if_neg c] at h
      exact h.elim
  | .shl, .int i, .int j, h =>
    by_cases c : PowOk i j
    · simp only [bopM, if_pos c] at h
      exact op_shl pins s σ H x y v u Q I rx ry ⟨i, j, pd.int, pe.int, c, i2 (i := i) (j := j) h⟩
    · simp only [bopM, if_neg c] at h
      exact h.elim
  | .shr, .int i, .int j, h =>
    by_cases c : 0 ≤ j
    · simp only [bopM, if_pos c] at h
      exact op_shr pins s σ H x y v u Q I rx ry ⟨i, j, pd.int, pe.int, c, i2 (i := i) (j := j) h⟩
    · simp only [bopM, if_neg c] at h
      exact h.elim
  | .add, .str i, .str j, h =>
    by_cases c : i.length + j.length ≤ sizeLine
    · simp only [bopM, if_pos c] at h
      exact op_add_str pins s σ H x y v u Q I rx ry ⟨i, j, pd.str, pe.str, c, h _ _ _ G .rfl' (.str _)⟩
    · simp only [bopM, if_neg c] at h
      exact h.elim
  | .add, .tup i, .tup j, h =>
    by_cases c : i.length + j.length ≤ sizeLine
    · simp only [bopM, if_pos c] at h
      obtain ⟨a, vs, rfl, ha, ga, da⟩ := pd.tup G
      obtain ⟨b, ws, rfl, hb, gb, db⟩ := pe.tup G
      refine op_catA pins s σ H _ _ v u Q I rx ry ⟨a, b, vs, ws, rfl, rfl, hK ▸ ha, hK ▸ hb, by rw [← da.length, ← db.length]; exact c, fun e => ?_, fun _ e => ?_, fun _ _ => new (da.append db) h⟩
      · subst e
        have e0 : i = [] := List.eq_nil_of_length_eq_zero da.length
        subst e0
        exact h _ _ _ G .rfl' (.tup gb db)
      · subst e
        have e0 : j = [] := List.eq_nil_of_length_eq_zero db.length
        subst e0
        rw [List.append_nil] at h
        exact h _ _ _ G .rfl' (.tup ga da)
    · simp only [bopM, if_neg c] at h
      exact h.elim
  | .mul, .tup i, .int k, h =>
    by_cases c : i ≠ [] ∧ 2 ≤ k ∧ k ≤ 1000 ∧ i.length ≤ 1000
    · simp only [bopM, if_pos c] at h
      obtain ⟨a, vs, rfl, ha, ga, da⟩ := pd.tup G
      refine op_repT pins s σ H _ _ v u Q I rx ry ⟨a, k, vs, rfl, pe.int, hK ▸ ha, fun e => c.1 ?_, c.2.1, c.2.2.1, by rw [← da.length]; exact c.2.2.2, new (flat_rep da _) h⟩
      subst e
      exact List.eq_nil_of_length_eq_zero da.length
    · simp only [bopM, if_neg c] at h
      exact h.elim
end
end LB

namespace LB
open PySem L2

/-! ### dicts looked into -/
def lookK : List (D × D) → Key → Option D
  | [], _ => none
  | (e, d) :: r, k => if keyD e = some k then some d else lookK r k
def lookT : List (D × D) → List Key → Option D
  | [], _ => none
  | (e, d) :: r, k => if keyT e = some k then some d else lookT r k
def lookS : List (Str × D) → Str → Option D
  | [], _ => none
  | (e, d) :: r, k => if e = k then some d else lookS r k
/-- what stands in a dict at a key: none where that isn't told, some none where nothing stands there -/
def getD? : D → D → Option (Option D)
  | .dct false kvs, k => (keyD k).map (lookK kvs)
  | .dct true kvs, k => (keyT k).map (lookT kvs)
  | .kdc kvs, .str x => some (lookS kvs x)
  | _, _ => none
section
variable {Z : Stc} {Fo : Hp} {W : WX} {g g' : Gh} {m m' : Mst} {σ : L2.St} {H : Hp} {N N' : Nat} {G0 : Hp} {μ0 : Nat → Addr}
theorem lookK_rel : ∀ {kvs : List (D × D)} {ks : List (Key × V)} (k : Key), DVk Z G0 μ0 N kvs ks → match lookK kvs k, valV ks k with
    | some d, some v => DV Z G0 μ0 N d v
    | none, none => True
    | _, _ => False
  | _, _, _, .nil => trivial
  | (e, d) :: r, (k', v) :: s, k, .cons he hd hr => by
    have ih := lookK_rel k hr
    by_cases c : k' = k
    · subst c
      rw [valV_pos (p := (k', v)) rfl, lookK, if_pos he]
      exact hd
    · rw [valV_neg (p := (k', v)) c, lookK, if_neg (by rw [he]; simpa using c)]
      exact ih
theorem lookT_rel : ∀ {kvs : List (D × D)} {ks : List (List Key × V)} (k : List Key), DVt Z G0 μ0 N kvs ks → match lookT kvs k, valV ks k with
    | some d, some v => DV Z G0 μ0 N d v
    | none, none => True
    | _, _ => False
  | _, _, _, .nil => trivial
  | (e, d) :: r, (k', v) :: s, k, .cons he hd hr => by
    have ih := lookT_rel k hr
    by_cases c : k' = k
    · subst c
      rw [valV_pos (p := (k', v)) rfl, lookT, if_pos he]
      exact hd
    · rw [valV_neg (p := (k', v)) c, lookT, if_neg (by rw [he]; simpa using c)]
      exact ih
theorem lookS_rel : ∀ {kvs : List (Str × D)} {es : List DictEntry} (x : Str), DVe Z G0 μ0 N kvs es → match lookS kvs x, (es.find? fun e => Value.isStrOf x e.key).map (·.val) with
    | some d, some u => ∃ v, RelV v u ∧ DV Z G0 μ0 N d v
    | none, none => True
    | _, _ => False
  | _, _, _, .nil => trivial
  | (y, d) :: r, ⟨_, .str _ t, _⟩ :: s, x, .cons ru hd hr => by
    have ih := lookS_rel x hr
    by_cases c : y = x
    · subst c
      rw [List.find?_cons_of_pos (by simp [Value.isStrOf]), lookS, if_pos rfl]
      exact ⟨_, ru, hd⟩
    · rw [List.find?_cons_of_neg (by simpa [Value.isStrOf] using c), lookS, if_neg c]
      exact ih
theorem PV.key {d : D} {v : V} {k : Key} (r : PV Z g N H d v) (h : keyD d = some k) : v = kV k := by
  cases d with
  | int i => cases h; exact r.int
  | str x => cases h; exact r.str
  | _ => cases h
theorem DVs.keys : ∀ {ds : List D} {vs : List V} {ks : List Key}, DVs Z G0 μ0 N ds vs → keysD ds = some ks → vs = ks.map kV
  | _, _, _, .nil, h => by cases h; rfl
  | d :: ds, v :: vs, ks, .cons h1 h2, h => by
    unfold keysD at h
    cases e1 : keyD d with
    | none => rw [e1] at h; cases h
    | some k =>
      cases e2 : keysD ds with
      | none => rw [e1, e2] at h; cases h
      | some ks' =>
        rw [e1, e2] at h
        cases h
        have q : v = kV k := by
          cases d with
          | int i => cases e1; cases h1; rfl
          | str x => cases e1; cases h1; rfl
          | _ => cases e1
        rw [q, DVs.keys h2 e2]
        rfl
theorem PV.keyT {d : D} {v : V} {k : List Key} (G : Good Z Fo g m σ H) (r : PV Z g m.S.length H d v) (h : keyT d = some k) : ∃ b, v = .ref b ∧ H b = some (.tup (k.map kV)) := by
  cases d with
  | tup ds =>
    obtain ⟨a, vs, rfl, ha, _, q⟩ := r.tup' G
    rw [q.keys h] at ha
    exact ⟨a, rfl, ha⟩
  | _ => cases h
theorem PV.dct0 {kvs : List (D × D)} {v : V} (G : Good Z Fo g m σ H) (r : PV Z g m.S.length H (.dct false kvs) v) : ∃ a ks, v = .ref a ∧ H a = some (.dK ks) ∧ DVk Z g.G g.μ m.S.length kvs ks := by
  rcases r with r | ⟨a, h, o, rfl, e, eo, r⟩
  · cases r with
    | dk h r => exact ⟨_, _, rfl, G.s.gh _ _ h, r⟩
  · cases o with
    | lst ds => cases eo
    | dct t k =>
      cases eo
      obtain ⟨vs, rfl, r⟩ := r
      exact ⟨a, vs, rfl, e, r⟩
theorem PV.dct1 {kvs : List (D × D)} {v : V} (G : Good Z Fo g m σ H) (r : PV Z g m.S.length H (.dct true kvs) v) : ∃ a ks, v = .ref a ∧ H a = some (.dT ks) ∧ DVt Z g.G g.μ m.S.length kvs ks := by
  rcases r with r | ⟨a, h, o, rfl, e, eo, r⟩
  · cases r with
    | dt h r => exact ⟨_, _, rfl, G.s.gh _ _ h, r⟩
  · cases o with
    | lst ds => cases eo
    | dct t k =>
      cases eo
      obtain ⟨vs, rfl, r⟩ := r
      exact ⟨a, vs, rfl, e, r⟩
theorem PV.kdc {kvs : List (Str × D)} {v : V} (r : PV Z g N H (.kdc kvs) v) : ∃ a es n, v = .ref a ∧ KDict Z.K Z.w a es n ∧ DVe Z g.G g.μ N kvs es.toList := by
  rcases r with r | ⟨a, h, o, rfl, e, eo, r⟩
  · cases r with
    | kd h r => exact ⟨_, _, _, rfl, h, r⟩
  · cases o <;> cases eo
/-- a dict asked at a key -/
inductive Asked (Z : Stc) (Fo : Hp) (g : Gh) (N : Nat) (H : Hp) (x y : V) : Option D → Prop
  | get {a : Addr} {o : Option D} {r : Option V} : x = .ref a → DGet H a y r → (match o, r with | some d, some v => DV Z g.G g.μ N d v | none, none => True | _, _ => False) → Asked Z Fo g N H x y o
  | kd {a : Addr} {es : Array DictEntry} {n : Nat} {z : Str} {o : Option D} : x = .ref a → y = .str z → KDict Z.K Z.w a es n → (match o, findBy Value.isStrOf es z with | some d, some u => ∃ v, RelV v u ∧ DV Z g.G g.μ N d v | none, none => True | _, _ => False) → Asked Z Fo g N H x y o
def OD (Z : Stc) (g : Gh) (N : Nat) : Option D → Option V → Prop
  | some d, some v => DV Z g.G g.μ N d v
  | none, none => True
  | _, _ => False
theorem askedD {t : Bool} {kvs : List (D × D)} {e : D} {x y : V} {o : Option D} (G : Good Z Fo g m σ H) (pd : PV Z g m.S.length H (.dct t kvs) x) (pe : PV Z g m.S.length H e y) (h : getD? (.dct t kvs) e = some o) :
    ∃ a r, x = .ref a ∧ DGet H a y r ∧ OD Z g m.S.length o r := by
  cases t with
  | false =>
    have h : (keyD e).map (lookK kvs) = some o := h
    obtain ⟨a, ks, rfl, hd, q⟩ := pd.dct0 G
    cases ek : keyD e with
    | none => rw [ek] at h; cases h
    | some k =>
      rw [ek] at h
      cases h
      refine ⟨a, _, rfl, .inl ⟨ks, k, .inl hd, pe.key ek, rfl⟩, ?_⟩
      have := lookK_rel k q
      revert this
      cases lookK kvs k <;> cases valV ks k <;> exact id
  | true =>
    have h : (LB.keyT e).map (lookT kvs) = some o := h
    obtain ⟨a, ks, rfl, hd, q⟩ := pd.dct1 G
    cases ek : LB.keyT e with
    | none => rw [ek] at h; cases h
    | some k =>
      rw [ek] at h
      cases h
      obtain ⟨b, rfl, hb⟩ := pe.keyT G ek
      refine ⟨a, _, rfl, .inr ⟨ks, k, b, .inl hd, rfl, hb, rfl⟩, ?_⟩
      have := lookT_rel k q
      revert this
      cases lookT kvs k <;> cases valV ks k <;> exact id
theorem asked {d e : D} {x y : V} {o : Option D} (G : Good Z Fo g m σ H) (pd : PV Z g m.S.length H d x) (pe : PV Z g m.S.length H e y) (h : getD? d e = some o) : Asked Z Fo g m.S.length H x y o := by
  cases d with
  | dct t kvs =>
    obtain ⟨a, r, ex, dg, rr⟩ := askedD G pd pe h
    refine .get ex dg ?_
    cases o <;> cases r <;> exact rr
  | kdc kvs =>
    cases e with
    | str z =>
      obtain ⟨a, es, n, rfl, hd, q⟩ := pd.kdc
      cases h
      refine .kd rfl pe.str hd ?_
      have := lookS_rel z q
      have ef : findBy Value.isStrOf es z = (es.toList.find? fun e => Value.isStrOf z e.key).map (·.val) := by
        obtain ⟨l⟩ := es
        simp [findBy]
      rw [ef]
      revert this
      cases lookS kvs z <;> cases (es.toList.find? fun e => Value.isStrOf z e.key).map (·.val) <;> exact id
    | _ => cases h
  | _ => cases h
end
end LB

namespace LB
open PySem L2

section
variable {Z : Stc} {Fo : Hp} {W : WX} {X : Cx} {ea eb ec : Expr} {a b c : Opd} {pos : Pos}
theorem de_bop (hK : X.K = Z.K) (o : BOp) (ha : PE X ea (tO Z Fo W a)) (hb : PE X eb (tO Z Fo W b)) : PE X (.BinOp ea o.op eb pos) (tE Z Fo W (opd2 a b (bopM o))) :=
  (pe_op (bop_rule hK o) ha hb).imp fun σ H Q ⟨g, m, G, h⟩ => rd_opd2 G h fun g' m' H' x y d e G' _ px py p => ⟨g', m', σ, d, e, G', px, py, p⟩
theorem _root_.L2.Inv.lstR {pins : List (Addr × Obj)} {σ : L2.St} {H : Hp} {s : Shared} (I : Inv X pins σ H s) {l : Addr} {xs : List V} (r : Rd H l (.lst xs)) :
    xs.length ≤ sizeLine ∧ ∃ (its : List Value) (n : Nat), Vals xs its ∧ s.heap.get? l = some { cls := .type "list", data := .seq its.toArray n } := by
  obtain ⟨z, its, n, r, e⟩ := r.ok I.hok
  exact ⟨z, its, n, r, e⟩
/-- a list's object, repeated -/
theorem rep_at {P : Program} {w : World} {A : Around} {E : Value → Shared → Prop} {s : Shared} {l : Addr} {its : List Value} {n : Nat} {k : Int} {t : Tok} {Q : Value → Shared → Prop}
    (e : s.heap.get? l = some { cls := .type "list", data := .seq its.toArray n }) (h0 : 0 ≤ k) (h2 : k < 2 ^ 63) (hz : its.length * k.toNat ≤ sizeLine)
    (q : Q (.ref s.heap.objs.size) { s with heap := s.heap.push { cls := .type "list", data := .seq (List.replicate k.toNat its).flatten.toArray } }) : wpAny (model P w) A (binaryOp .Mult (.ref l) (.int k t)) Q E s := by
  have hl : its.toArray.size * k.toNat ≤ sizeLine := by rw [List.size_toArray]; exact hz
  have big : (sizeLine : Nat) ≤ (2 ^ 63 - 1) / 8 := by decide
  have fit : ¬ (!Builtin.List.listFitsIndex k) = true := by rw [fitsIndex_both (by omega) h2]; simp
  have long : ¬ Builtin.List.listTooLong (its.toArray.size * k.toNat) = true := by rw [notLongL hl]; simp
  have all : List.foldl (fun x1 x2 => x1 ++ x2) #[] (List.replicate (if its.toArray.isEmpty = true then 0 else k.toNat) its.toArray) = (List.replicate k.toNat its).flatten.toArray := by
    have f0 : ∀ m : Nat, List.foldl (fun x1 x2 => x1 ++ x2) #[] (List.replicate m its.toArray) = (List.replicate m its).flatten.toArray := fun m => by simpa using foldl_rep its m []
    rw [f0]
    cases its <;> simp
  refine wpAny_binaryOp_repeat_ref (T := "list") (U := "int") (by decide) ⟨_, e, rfl⟩ (fun s' => typeIs_int s' k t) noFill_list_mul F.fills_int_mul F.slot_int_rmul repeat_list F.slot_int_index.lookup ?_
  refine call_meets F.slot_int_rmul (typeIs_int s k t) F.entry_int_rmul (F.args_int_rmul_2 _ _) (int___rmul___int_list k t l its.toArray n) ⟨e, rfl, ⟨_, e, rfl⟩, ?_⟩
  refine call_meets F.slot_list_mul ⟨_, e, rfl⟩ F.entry_list_mul (F.args_list_mul_2 _ _) (AutoListH.list___mul___list_int_3 l its.toArray n k t fit (by omega) long) ⟨e, ?_⟩
  rw [all]
  exact q
theorem bopN_rule (o : BOp) : OpR X (binaryOp o.op) (rM Z Fo W (RN Z Fo) (bopN o)) := by
  intro pins s σ H x y v u Q I rx ry ⟨g, m, σ', d, e, G, pd, pe, h⟩
  have new : ∀ {xs : List D} {vs : List V}, DVs Z g.G g.μ m.S.length xs vs → Pg Z Fo W (RN Z Fo) g m.S.length σ' Q (.ok (.lst xs) m) → ∀ p, H p = none → Q (.ref p) (upd H p (.lst vs)) := fun {xs vs} r h p n => by
    obtain ⟨f1, f2, f3⟩ := G.free n
    exact h _ _ _ (G.fresh n) .rfl' ⟨p, .lst vs, rfl, upd_same, ⟨vs, rfl, r⟩, f1, f2, f3⟩
  match o, d, e, h with
  | .add, .lst i, .lst j, h =>
    by_cases c : i.length + j.length ≤ sizeLine
    · simp only [bopN, if_pos c] at h
      obtain ⟨l, vs, rfl, hl, dl⟩ := pd.lst G
      obtain ⟨b, ws, rfl, hb, db⟩ := pe.lst G
      cases rx
      cases ry
      obtain ⟨z, its, n, r, e1⟩ := I.lstR hl
      obtain ⟨z2, its2, n2, r2, e2⟩ := I.lstR hb
      have q1 := r.length
      have q2 := r2.length
      have q3 := dl.length
      have q4 := db.length
      refine PySem.P.add_list e1 e2 ?_ (by rw [List.size_toArray, List.size_toArray]; omega)
      rw [show its.toArray ++ its2.toArray = (its ++ its2).toArray by simp]
      exact ⟨.ref _, _, I.lnew (t' := s.toks) (r.append r2) (by rw [List.length_append]; omega), rfl, new (dl.append db) h _ I.fresh⟩
    · simp only [bopN, if_neg c] at h
      exact h.elim
  | .mul, .lst i, .int k, h =>
    by_cases c : 0 ≤ k ∧ k < 2 ^ 63 ∧ i.length * k.toNat ≤ sizeLine
    · simp only [bopN, if_pos c] at h
      obtain ⟨l, vs, rfl, hl, dl⟩ := pd.lst G
      have q3 := dl.length
      obtain rfl := pe.int
      obtain ⟨t, rfl⟩ := ry
      cases rx
      obtain ⟨z, its, n, r, e1⟩ := I.lstR hl
      have q1 := r.length
      exact rep_at e1 c.1 c.2.1 (by rw [← q1, ← q3]; exact c.2.2) ⟨.ref _, _, I.lnew (t' := s.toks) (r.rep k.toNat) (by rw [PyProof.Rows.lm_len_rep_flat, Nat.mul_comm, ← q3]; exact c.2.2), rfl, new (flat_rep dl _) h _ I.fresh⟩
    · simp only [bopN, if_neg c] at h
      exact h.elim
theorem de_bopN (o : BOp) (ha : PE X ea (tO Z Fo W a)) (hb : PE X eb (tO Z Fo W b)) : PE X (.BinOp ea o.op eb pos) (tN Z Fo W (opd2 a b (bopN o))) :=
  (pe_op (bopN_rule o) ha hb).imp fun σ H Q ⟨g, m, G, h⟩ => rd_opd2 G h fun g' m' H' x y d e G' _ px py p => ⟨g', m', σ, d, e, G', px, py, p⟩

/-! ### comparisons -/
inductive COp where
  | eq | ne | lt | le | gt | ge | isin | notin | is_ | isnot
def COp.op : COp → CmpOp
  | .eq => .Eq | .ne => .NotEq | .lt => .Lt | .le => .LtE | .gt => .Gt | .ge => .GtE | .isin => .In | .notin => .NotIn | .is_ => .Is | .isnot => .IsNot
/-- x in a sequence, where it is told -/
def inD (d : D) : D → Option Bool
  | .lst ds => if SeqAt.shaped d.toP && PyData.canLayAll0 (D.toPs ds) then some ((D.toPs ds).any fun z => PyData.eqv z d.toP) else none
  | .tup ds => if SeqAt.shaped d.toP && PyData.canLayAll0 (D.toPs ds) then some ((D.toPs ds).any fun z => PyData.eqv z d.toP) else none
  | .ktp ds => if SeqAt.shaped d.toP && PyData.canLayAll0 (D.toPs ds) then some ((D.toPs ds).any fun z => PyData.eqv z d.toP) else none
  | .str z => match d with
    | .str x => match x.cps.toList with
      | [c] => some (decide (c ∈ z.cps.toList))
      | _ => none
    | _ => none
  | e => (getD? e d).map Option.isSome
def D.isN : D → Bool
  | .non => true
  | _ => false
def cmpD : COp → D → D → Option Bool
  | .eq, x, y => eqD x y
  | .ne, x, y => (eqD x y).map not
  | .lt, .int i, .int j => some (decide (i < j))
  | .le, .int i, .int j => some (decide (i ≤ j))
  | .gt, .int i, .int j => some (decide (j < i))
  | .ge, .int i, .int j => some (decide (j ≤ i))
  | .isin, x, y => inD x y
  | .notin, x, y => (inD x y).map not
  | .is_, x, .non => some x.isN
  | .isnot, x, .non => some (!x.isN)
  | _, _, _ => none
theorem PV.isN {g : Gh} {N : Nat} {H : Hp} {d : D} {v : V} (r : PV Z g N H d v) : decide (v = .non) = d.isN := by
  rcases r with r | ⟨a, h, o, rfl, e, eo, r⟩
  · cases r <;> rfl
  · subst eo
    cases o <;> rfl
theorem asked_in {pins : List (Addr × Obj)} {s : Shared} {σ : L2.St} {H : Hp} {g : Gh} {N : Nat} {x y : V} {v u : Value} {o : Option D} {Q : V → Hp → Prop} (hK : X.K = Z.K) (hw : X.w = Z.w) (hu : X.A.units + 65 < cLine)
    (as : Asked Z Fo g N H y x o) (I : L2.Inv X pins σ H s) (rx : RelV x v) (ry : RelV y u) (q : Q (.bl o.isSome) H) : wpAny (model X.prog X.w) X.A (compareOp .In v u) (EP X pins σ Q) X.xe s := by
  cases as with
  | get ea dg r =>
    subst ea
    cases ry
    rename_i rr
    refine d_in (by omega) I dg rx fun s' I' => ⟨.bl rr.isSome, H, I', rfl, ?_⟩
    cases o <;> cases rr <;> first | exact q | exact r.elim
  | kd ea ez kd r =>
    subst ea ez
    cases ry
    obtain ⟨t, rfl⟩ := rx
    rw [← hK, ← hw] at kd
    refine wpAny_in_of (PySem.strKind_is X.prog X.w _ t) kd.low (PySem.W.mapOf_K (prog := X.prog) I.kIn kd.at_ kd.lit) ⟨.bl o.isSome, H, I.tok _, ?_, q⟩
    cases o <;> revert r <;> cases findBy Value.isStrOf _ _ <;> intro r <;> first | rfl | exact r.elim
theorem asked_notIn {pins : List (Addr × Obj)} {s : Shared} {σ : L2.St} {H : Hp} {g : Gh} {N : Nat} {x y : V} {v u : Value} {o : Option D} {Q : V → Hp → Prop} (hK : X.K = Z.K) (hw : X.w = Z.w) (hu : X.A.units + 65 < cLine)
    (as : Asked Z Fo g N H y x o) (I : L2.Inv X pins σ H s) (rx : RelV x v) (ry : RelV y u) (q : Q (.bl (!o.isSome)) H) : wpAny (model X.prog X.w) X.A (compareOp .NotIn v u) (EP X pins σ Q) X.xe s := by
  cases as with
  | get ea dg r =>
    subst ea
    cases ry
    rename_i rr
    refine d_notIn (by omega) I dg rx fun s' I' => ⟨.bl (!rr.isSome), H, I', rfl, ?_⟩
    cases o <;> cases rr <;> first | exact q | exact r.elim
  | kd ea ez kd r =>
    subst ea ez
    cases ry
    obtain ⟨t, rfl⟩ := rx
    rw [← hK, ← hw] at kd
    refine wpAny_notIn_of (PySem.strKind_is X.prog X.w _ t) kd.low (PySem.W.mapOf_K (prog := X.prog) I.kIn kd.at_ kd.lit) ⟨.bl (!o.isSome), H, I.tok _, ?_, q⟩
    cases o <;> revert r <;> cases findBy Value.isStrOf _ _ <;> intro r <;> first | rfl | exact r.elim
/-- d[k] of a dict -/
theorem asked_item {pins : List (Addr × Obj)} {s : Shared} {σ : L2.St} {H : Hp} {g : Gh} {N : Nat} {x y : V} {v u : Value} {d : D} {Q : V → Hp → Prop} (hK : X.K = Z.K) (hw : X.w = Z.w) (hu : X.A.units + 65 < cLine)
    (as : Asked Z Fo g N H x y (some d)) (I : L2.Inv X pins σ H s) (rx : RelV x v) (ry : RelV y u) (q : ∀ z, DV Z g.G g.μ N d z → Q z H) : s.TypeIs v "dict" ∧ wpAny (model X.prog X.w) X.A (getItem v u) (EP X pins σ Q) X.xe s := by
  cases as with
  | get ea dg r =>
    subst ea
    cases rx
    rename_i rr
    cases rr with
    | none => exact r.elim
    | some z => exact ⟨dict_typeIs I dg, d_getItem (by omega) I dg ry fun w' s' I' r' => ⟨z, H, I', r', q z r⟩⟩
  | kd ea ez kd r =>
    subst ea ez
    cases rx
    obtain ⟨t, rfl⟩ := ry
    rw [← hK, ← hw] at kd
    revert r
    cases ef : findBy Value.isStrOf _ _ with
    | none => exact fun r => r.elim
    | some u0 => exact fun ⟨z, rz, dz⟩ => ⟨kd_type kd I, wpAny_getItem_of (PySem.strKind_is X.prog X.w _ t) (PySem.W.mapOf_K (prog := X.prog) I.kIn kd.at_ kd.lit) ef ⟨z, H, I.tok _, rz, q z dz⟩⟩
theorem cmp_rule (hK : X.K = Z.K) (hw : X.w = Z.w) (hu : X.A.units + 65 < cLine) (o : COp) : OpR X (compareOp o.op) (fun x y H Q => ∃ g m σ d e k, Good Z Fo g m σ H ∧ PV Z g m.S.length H d x ∧ PV Z g m.S.length H e y ∧ cmpD o d e = some k ∧ Q (.bl k) H) := by
  intro pins s σ H x y v u Q I rx ry ⟨g, m, σ', d, e, k, G, pd, pe, hk, q⟩
  have eqs : ∀ {k : Bool}, eqD d e = some k → Dp X.K H x d.toP ∧ Dp X.K H y e.toP ∧ SeqAt.shaped d.toP = true ∧ SeqAt.shaped e.toP = true ∧ k = PyData.eqv d.toP e.toP := fun {k} h => by
    unfold eqD at h
    by_cases c : (SeqAt.shaped d.toP && SeqAt.shaped e.toP) = true
    · rw [if_pos c] at h
      obtain ⟨c1, c2⟩ := Bool.and_eq_true_iff.mp c
      exact ⟨hK ▸ pd.dp G (SeqAt.canLay_of_shaped c1), hK ▸ pe.dp G (SeqAt.canLay_of_shaped c2), c1, c2, (Option.some.inj h).symm⟩
    · rw [if_neg c] at h
      cases h
  have ins : ∀ {k : Bool}, inD d e = some k → (∀ {ds : List PyData} {as bs : List Addr}, Reads s.heap u (.list ds) as ∨ Reads s.heap u (.tuple ds) as → Reads s.heap v d.toP bs → PyData.canLayAll0 ds = true → SeqAt.shaped d.toP = true → k = ds.any (fun z => PyData.eqv z d.toP) → False) →
      (∃ c z, x = .str ⟨#[c]⟩ ∧ y = .str z ∧ k = decide (c ∈ z.cps.toList)) ∨ ∃ o, Asked Z Fo g m.S.length H y x o ∧ k = o.isSome := fun {k} h no => by
    have dic : (getD? e d).map Option.isSome = some k → ∃ o, Asked Z Fo g m.S.length H y x o ∧ k = o.isSome := fun h => by
      cases h0 : getD? e d with
      | none => rw [h0] at h; cases h
      | some o =>
        rw [h0] at h
        exact ⟨o, asked G pe pd h0, (Option.some.inj h).symm⟩
    unfold inD at h
    cases e with
    | lst ds =>
      dsimp only at h
      by_cases c : (SeqAt.shaped d.toP && PyData.canLayAll0 (D.toPs ds)) = true
      · rw [if_pos c] at h
        obtain ⟨c1, c2⟩ := Bool.and_eq_true_iff.mp c
        obtain ⟨as, r1⟩ := Dp.reads I d.toP x v (hK ▸ pd.dp G (SeqAt.canLay_of_shaped c1)) rx
        obtain ⟨bs, r2⟩ := Dp.reads I (.list (D.toPs ds)) y u (hK ▸ pe.dp G (by simpa [D.toP, PyData.canLay0] using c2)) ry
        exact (no (.inl r2) r1 c2 c1 (Option.some.inj h).symm).elim
      · rw [if_neg c] at h
        cases h
    | tup ds =>
      dsimp only at h
      by_cases c : (SeqAt.shaped d.toP && PyData.canLayAll0 (D.toPs ds)) = true
      · rw [if_pos c] at h
        obtain ⟨c1, c2⟩ := Bool.and_eq_true_iff.mp c
        obtain ⟨as, r1⟩ := Dp.reads I d.toP x v (hK ▸ pd.dp G (SeqAt.canLay_of_shaped c1)) rx
        obtain ⟨bs, r2⟩ := Dp.reads I (.tuple (D.toPs ds)) y u (hK ▸ pe.dp G (by simpa [D.toP, PyData.canLay0] using c2)) ry
        exact (no (.inr r2) r1 c2 c1 (Option.some.inj h).symm).elim
      · rw [if_neg c] at h
        cases h
    | ktp ds =>
      dsimp only at h
      by_cases c : (SeqAt.shaped d.toP && PyData.canLayAll0 (D.toPs ds)) = true
      · rw [if_pos c] at h
        obtain ⟨c1, c2⟩ := Bool.and_eq_true_iff.mp c
        obtain ⟨as, r1⟩ := Dp.reads I d.toP x v (hK ▸ pd.dp G (SeqAt.canLay_of_shaped c1)) rx
        obtain ⟨bs, r2⟩ := Dp.reads I (.tuple (D.toPs ds)) y u (hK ▸ pe.dp G (by simpa [D.toP, PyData.canLay0] using c2)) ry
        exact (no (.inr r2) r1 c2 c1 (Option.some.inj h).symm).elim
      · rw [if_neg c] at h
        cases h
    | str z =>
      cases d with
      | str w =>
        obtain ⟨⟨cs⟩⟩ := w
        dsimp only at h
        split at h
        · rename_i c'
          exact .inl ⟨_, z, pd.str, pe.str, (Option.some.inj h).symm⟩
        · cases h
      | _ => cases h
    | _ => exact .inr (dic h)
  cases o with
  | eq =>
    obtain ⟨d1, d2, s1, s2, rfl⟩ := eqs hk
    exact op_eqD (by omega) pins s σ H x y v u Q I rx ry ⟨_, _, d1, d2, s1, s2, q⟩
  | ne =>
    have hk : (eqD d e).map not = some k := hk
    cases h0 : eqD d e with
    | none => rw [h0] at hk; cases hk
    | some k0 =>
      rw [h0] at hk
      cases hk
      obtain ⟨d1, d2, s1, s2, rfl⟩ := eqs h0
      exact op_neD (by omega) pins s σ H x y v u Q I rx ry ⟨_, _, d1, d2, s1, s2, q⟩
  | lt => match d, e, hk with
    | .int i, .int j, hk => cases hk; exact op_lt pins s σ H x y v u Q I rx ry ⟨i, j, pd.int, pe.int, q⟩
  | le => match d, e, hk with
    | .int i, .int j, hk => cases hk; exact op_le pins s σ H x y v u Q I rx ry ⟨i, j, pd.int, pe.int, q⟩
  | gt => match d, e, hk with
    | .int i, .int j, hk => cases hk; exact op_gt pins s σ H x y v u Q I rx ry ⟨i, j, pd.int, pe.int, q⟩
  | ge => match d, e, hk with
    | .int i, .int j, hk => cases hk; exact op_ge pins s σ H x y v u Q I rx ry ⟨i, j, pd.int, pe.int, q⟩
  | is_ => match e, hk with
    | .non, hk =>
      cases hk
      rw [← PV.isN pd] at q
      exact op_isN pins s σ H x y v u Q I rx ry ⟨pe.non, q⟩
  | isnot => match e, hk with
    | .non, hk =>
      cases hk
      refine op_notN pins s σ H x y v u Q I rx ry ⟨pe.non, ?_⟩
      rw [PV.isN pd]
      exact q
  | isin =>
    have hk : inD d e = some k := hk
    apply Classical.byContradiction
    intro nn
    rcases ins hk fun {ds as bs} r2 r1 c2 c1 ek => nn (by
      subst ek
      rcases r2 with r2 | r2
      · exact SeqAt.in_list_reads r2 r1 c2 (SeqAt.canLay_of_shaped c1) (PyProof.Rows.room_in_shaped c1 hu) ⟨.bl _, H, I, rfl, q⟩
      · exact SeqAt.in_tuple_reads r2 r1 c2 (SeqAt.canLay_of_shaped c1) (PyProof.Rows.room_in_shaped c1 hu) ⟨.bl _, H, I, rfl, q⟩) with ⟨c, z, rfl, rfl, rfl⟩ | ⟨o, as, rfl⟩
    · exact nn (op_in_sign pins s σ H _ _ v u Q I rx ry ⟨c, z, rfl, rfl, q⟩)
    · exact nn (asked_in hK hw hu as I rx ry q)
  | notin =>
    have hk : (inD d e).map not = some k := hk
    cases h0 : inD d e with
    | none => rw [h0] at hk; cases hk
    | some k0 =>
      rw [h0] at hk
      cases hk
      apply Classical.byContradiction
      intro nn
      rcases ins h0 fun {ds as bs} r2 r1 c2 c1 ek => nn (by
        subst ek
        rcases r2 with r2 | r2
        · exact SeqAt.notIn_list_reads r2 r1 c2 (SeqAt.canLay_of_shaped c1) (PyProof.Rows.room_in_shaped c1 hu) ⟨.bl _, H, I, rfl, q⟩
        · exact SeqAt.notIn_tuple_reads r2 r1 c2 (SeqAt.canLay_of_shaped c1) (PyProof.Rows.room_in_shaped c1 hu) ⟨.bl _, H, I, rfl, q⟩) with ⟨c, z, rfl, rfl, rfl⟩ | ⟨o, as, rfl⟩
      · exact nn (op_notIn_sign pins s σ H _ _ v u Q I rx ry ⟨c, z, rfl, rfl, q⟩)
      · exact nn (asked_notIn hK hw hu as I rx ry q)
/-- a comparison: as a test, as a value -/
def cmpM (o : COp) (d e : D) : Mo Bool := .opt (cmpD o d e)
def blM (f : Mo Bool) : Mo D := f.bind fun k => .ret (.bl k)
theorem cmp_rd {σ : L2.St} {H : Hp} {P : V → Hp → Prop} (o : COp) (h : tT Z Fo W (opd2 a b (cmpM o)) σ H fun k H => P (.bl k) H) :
    tOp (fun x y H Q => ∃ g m σ d e k, Good Z Fo g m σ H ∧ PV Z g m.S.length H d x ∧ PV Z g m.S.length H e y ∧ cmpD o d e = some k ∧ Q (.bl k) H) (tO Z Fo W a) (tO Z Fo W b) σ H P := by
  obtain ⟨g, m, G, h⟩ := h
  refine rd_opd2 G h fun g' m' H' x y d e G' _ px py p => ?_
  cases hk : cmpD o d e with
  | none => simp only [cmpM, hk] at p; exact p.elim
  | some k =>
    simp only [cmpM, hk] at p
    exact ⟨g', m', σ, d, e, k, G', px, py, hk, p _ _ _ G' .rfl' rfl⟩
theorem nob (o : COp) {e : Expr} (h : ∀ es k p, e ≠ .Set es k p) : behindInMarks o.op e = false := by
  cases e <;> first | rfl | exact absurd rfl (h _ _ _)
theorem dt_cmp (hK : X.K = Z.K) (hw : X.w = Z.w) (hu : X.A.units + 65 < cLine) (o : COp) (ha : PE X ea (tO Z Fo W a)) (hb : PE X eb (tO Z Fo W b)) (hm : ∀ es k p, eb ≠ .Set es k p) : PT X (.Compare ea [o.op] [eb] pos) (tT Z Fo W (opd2 a b (cmpM o))) :=
  (pt_cmpR (cmp_rule (Fo := Fo) hK hw hu o) ha hb (nob o hm)).imp fun σ H Q ⟨g, m, G, h⟩ => cmp_rd o ⟨g, m, G, h.imp fun k H q => ⟨k, rfl, q⟩⟩
end
/-- a truth value as a datum -/
theorem rd_bl {Z : Stc} {Fo : Hp} {W : WX} {σ : L2.St} {H : Hp} {Q : V → Hp → Prop} {f : Mo Bool} (h : tE Z Fo W (blM f) σ H Q) : tT Z Fo W f σ H fun k H' => Q (.bl k) H' := by
  obtain ⟨g, m, G, h⟩ := h
  exact ⟨g, m, G, (Pg.bind (R := RB) h).imp fun v H' ⟨k, g', m', G', E, ek, _, q⟩ => by
    subst ek
    exact q _ _ _ G' .rfl' (.bl _)⟩
section
variable {Z : Stc} {Fo : Hp} {W : WX} {X : Cx} {ea eb ec : Expr} {a b c : Opd} {pos : Pos}
theorem de_cmp (hK : X.K = Z.K) (hw : X.w = Z.w) (hu : X.A.units + 65 < cLine) (o : COp) (ha : PE X ea (tO Z Fo W a)) (hb : PE X eb (tO Z Fo W b)) (hm : ∀ es k p, eb ≠ .Set es k p) : PE X (.Compare ea [o.op] [eb] pos) (tE Z Fo W (blM (opd2 a b (cmpM o)))) :=
  (pe_cmpR (cmp_rule (Fo := Fo) hK hw hu o) ha hb (nob o hm)).imp fun σ H Q h => by
    exact cmp_rd o (rd_bl h)
end
end LB

namespace LB
open PySem L2

section
variable {Z : Stc} {Fo : Hp} {W : WX} {g g' : Gh} {m m' : Mst} {σ : L2.St} {H : Hp} {N N' : Nat}
/-! ### values, lists of values -/
theorem rd_k {d : D} {v : V} {Q : V → Hp → Prop} (r : ∀ (G : Hp) (μ : Nat → Addr) (n : Nat), DV Z G μ n d v) (h : tE Z Fo W (.ret d) σ H Q) : tC v σ H Q := by
  obtain ⟨g, m, G, h⟩ := h
  exact h v H g G .rfl' (r _ _ _)
def consM (f : Mo D) (r : Mo (List D)) : Mo (List D) := f.bind fun d => r.bind fun ds => .ret (d :: ds)
theorem rd_nil {Q : List V → Hp → Prop} (h : tL Z Fo W (.ret []) σ H Q) : tNil σ H Q := by
  obtain ⟨g, m, G, h⟩ := h
  exact h [] H g G .rfl' .nil
theorem rd_cons {f : Mo D} {r : Mo (List D)} {Q : List V → Hp → Prop} (h : tL Z Fo W (consM f r) σ H Q) : tCons (tE Z Fo W f) (tL Z Fo W r) σ H Q := by
  obtain ⟨g, m, G, h⟩ := h
  refine ⟨g, m, G, (Pg.bind (R := RD Z) h).imp fun v H' ⟨d, g', m', G', E, dv, _, p⟩ => ⟨g', m', G', (Pg.bind (R := RDs Z) p).imp fun vs H2 ⟨ds, g2, m2, G2, E2, dvs, _, p2⟩ => ?_⟩⟩
  exact p2 (v :: vs) H2 g2 G2 .rfl' (.cons (dv.ext E2) dvs)
/-- a tuple of some values -/
def tupM (f : Mo (List D)) : Mo D := f.bind fun ds m => if ds.length ≤ sizeLine then .ok (.tup ds) m else .no
def lstM (f : Mo (List D)) : Mo Ob := f.bind fun ds m => if ds.length ≤ sizeLine then .ok (.lst ds) m else .no
theorem rd_tup {f : Mo (List D)} {Q : V → Hp → Prop} (h : tE Z Fo W (tupM f) σ H Q) : tTup (tL Z Fo W f) σ H Q := by
  obtain ⟨g, m, G, h⟩ := h
  refine ⟨g, m, G, (Pg.bind (R := RDs Z) h).imp fun vs H' ⟨ds, g', m', G', E, dvs, _, p⟩ => ?_⟩
  by_cases c : ds.length ≤ sizeLine
  · rw [if_pos c] at p
    refine ⟨by rw [← dvs.length]; exact c, fun q n => ?_⟩
    obtain ⟨G2, E2⟩ := G'.laid (h := .tup vs) n
    exact p _ _ _ G2 E2 (.tup (show upd g'.G q _ q = _ from upd_same) (dvs.ext E2))
  · rw [if_neg c] at p
    exact p.elim
theorem rd_lst {f : Mo (List D)} {Q : V → Hp → Prop} (h : tN Z Fo W (lstM f) σ H Q) : tLst (tL Z Fo W f) σ H Q := by
  obtain ⟨g, m, G, h⟩ := h
  refine ⟨g, m, G, (Pg.bind (R := RDs Z) h).imp fun vs H' ⟨ds, g', m', G', E, dvs, _, p⟩ => ?_⟩
  by_cases c : ds.length ≤ sizeLine
  · rw [if_pos c] at p
    refine ⟨by rw [← dvs.length]; exact c, fun q n => ?_⟩
    obtain ⟨f1, f2, f3⟩ := G'.free n
    exact p _ _ _ (G'.fresh n) .rfl' ⟨q, .lst vs, rfl, upd_same, ⟨vs, rfl, dvs⟩, f1, f2, f3⟩
  · rw [if_neg c] at p
    exact p.elim

/-! ### truth -/
theorem PV.tru {K : PySem.W.Frag} (hK : K = Z.K) (G : Good Z Fo g m σ H) {d : D} {v : V} {k : Bool} (r : PV Z g m.S.length H d v) (h : truD d = some k) : TruV K v H k := by
  subst hK
  cases d with
  | non => cases h; rw [r.non]; rfl
  | bl b => cases h; rw [r.bl]; rfl
  | int i => cases h; rw [r.int]; rfl
  | str x =>
    rw [r.str]
    dsimp only [truD] at h
    by_cases c : x.length ≤ sizeLine
    · rw [if_pos c] at h
      cases h
      refine ⟨c, ?_⟩
      generalize x.length = n
      cases n with
      | zero => rfl
      | succ n =>
        have e1 : ((n + 1 : Nat) != 0) = true := by simp
        have e2 : (((n + 1 : Nat) : Int) != 0) = true := by simp only [bne_iff_ne]; omega
        rw [e1, e2]
    · rw [if_neg c] at h; cases h
  | tup ds =>
    obtain ⟨a, vs, rfl, ha, _, q⟩ := r.tup G
    cases h
    refine .inr (.inl ⟨vs, ha, ?_⟩)
    cases q <;> rfl
  | lst ds =>
    obtain ⟨a, vs, rfl, ha, q⟩ := r.lst G
    cases h
    refine .inl ⟨vs, .inl ha, ?_⟩
    cases q <;> rfl
  | _ => cases h
def truM (d : D) : Mo Bool := .opt (truD d)
theorem rd_tru {K : PySem.W.Frag} (hK : K = Z.K) {a : Opd} {Q : Bool → Hp → Prop} (h : tT Z Fo W (opd1 a truM) σ H Q) : tO Z Fo W a σ H fun x H' => ∃ k, TruV K x H' k ∧ Q k H' := by
  obtain ⟨g, m, G, h⟩ := h
  refine rd_opd1 G h fun g' m' H' x d G' _ px p => ?_
  cases hk : truD d with
  | none => simp only [truM, hk] at p; exact p.elim
  | some k =>
    simp only [truM, hk] at p
    exact ⟨k, px.tru hK G' hk, p _ _ _ G' .rfl' rfl⟩
def andT (f r : Mo Bool) : Mo Bool := f.bind fun c => if c = true then r else .ret false
def orT (f r : Mo Bool) : Mo Bool := f.bind fun c => if c = true then .ret true else r
def notT (f : Mo Bool) : Mo Bool := f.bind fun c => .ret (!c)
theorem rd_and {f r : Mo Bool} {Q : Bool → Hp → Prop} (h : tT Z Fo W (andT f r) σ H Q) : tAnd (tT Z Fo W f) (tT Z Fo W r) σ H Q := by
  obtain ⟨g, m, G, h⟩ := h
  refine ⟨g, m, G, (Pg.bind (R := RB) h).imp fun c H' ⟨d, g', m', G', E, e, _, p⟩ => ?_⟩
  subst e
  cases d with
  | true => exact ⟨g', m', G', p⟩
  | false => exact p _ _ _ G' .rfl' rfl
theorem rd_or {f r : Mo Bool} {Q : Bool → Hp → Prop} (h : tT Z Fo W (orT f r) σ H Q) : tOr (tT Z Fo W f) (tT Z Fo W r) σ H Q := by
  obtain ⟨g, m, G, h⟩ := h
  refine ⟨g, m, G, (Pg.bind (R := RB) h).imp fun c H' ⟨d, g', m', G', E, e, _, p⟩ => ?_⟩
  subst e
  cases d with
  | false => exact ⟨g', m', G', p⟩
  | true => exact p _ _ _ G' .rfl' rfl
theorem rd_not {f : Mo Bool} {Q : Bool → Hp → Prop} (h : tT Z Fo W (notT f) σ H Q) : tNot (tT Z Fo W f) σ H Q := by
  obtain ⟨g, m, G, h⟩ := h
  refine ⟨g, m, G, (Pg.bind (R := RB) h).imp fun c H' ⟨d, g', m', G', E, e, _, p⟩ => ?_⟩
  subst e
  exact p _ _ _ G' .rfl' rfl
def iteM {α : Type} (c : Mo Bool) (f r : Mo α) : Mo α := c.bind fun k => if k = true then f else r
theorem rd_ite {c : Mo Bool} {f r : Mo D} {Q : V → Hp → Prop} (h : tE Z Fo W (iteM c f r) σ H Q) : tIf (tT Z Fo W c) (tE Z Fo W f) (tE Z Fo W r) σ H Q := by
  obtain ⟨g, m, G, h⟩ := h
  refine ⟨g, m, G, (Pg.bind (R := RB) h).imp fun c H' ⟨d, g', m', G', E, e, _, p⟩ => ?_⟩
  subst e
  cases d with
  | true => exact ⟨g', m', G', p⟩
  | false => exact ⟨g', m', G', p⟩
/-- x and y, x or y as values: x, looked at for its truth -/
def andM (f r : Mo D) : Mo D := f.bind fun d m => match truD (look m d) with
  | some true => r m
  | some false => .ok d m
  | none => .no
def orM (f r : Mo D) : Mo D := f.bind fun d m => match truD (look m d) with
  | some false => r m
  | some true => .ok d m
  | none => .no
theorem rd_andM {K : PySem.W.Frag} (hK : K = Z.K) {f r : Mo D} {Q : V → Hp → Prop} (h : tE Z Fo W (andM f r) σ H Q) : tAndT K (tE Z Fo W f) (tE Z Fo W r) σ H Q := by
  obtain ⟨g, m, G, h⟩ := h
  refine ⟨g, m, G, (Pg.bind (R := RD Z) h).imp fun v H' ⟨d, g', m', G', E, e, _, p⟩ => ?_⟩
  cases hk : truD (look m' d) with
  | none => simp only [hk] at p; exact p.elim
  | some k =>
    refine ⟨k, (pv_look G' e).tru hK G' hk, ?_⟩
    cases k with
    | true => simp only [hk] at p; exact ⟨g', m', G', p⟩
    | false => simp only [hk] at p; exact p _ _ _ G' .rfl' e
theorem rd_orM {K : PySem.W.Frag} (hK : K = Z.K) {f r : Mo D} {Q : V → Hp → Prop} (h : tE Z Fo W (orM f r) σ H Q) : tOrT K (tE Z Fo W f) (tE Z Fo W r) σ H Q := by
  obtain ⟨g, m, G, h⟩ := h
  refine ⟨g, m, G, (Pg.bind (R := RD Z) h).imp fun v H' ⟨d, g', m', G', E, e, _, p⟩ => ?_⟩
  cases hk : truD (look m' d) with
  | none => simp only [hk] at p; exact p.elim
  | some k =>
    refine ⟨k, (pv_look G' e).tru hK G' hk, ?_⟩
    cases k with
    | false => simp only [hk] at p; exact ⟨g', m', G', p⟩
    | true => simp only [hk] at p; exact p _ _ _ G' .rfl' e
end
section
variable {Z : Stc} {Fo : Hp} {W : WX} {X : Cx} {ea eb ec : Expr} {a b c : Opd} {pos : Pos} {f r : Mo D} {tf tr : Mo Bool} {rest : List Expr}
theorem de_not (hK : X.K = Z.K) (ha : PE X ea (tO Z Fo W a)) : PE X (.UnaryOp .Not ea pos) (tE Z Fo W (blM (notT (opd1 a truM)))) :=
  (pe_notT ha).imp fun σ H Q h => rd_tru (W := W) hK (by
    obtain ⟨g, m, G, h⟩ := rd_bl h
    exact ⟨g, m, G, (Pg.bind (R := RB) h).imp fun k H' ⟨d, g', m', G', E, e, _, p⟩ => by subst e; exact p _ _ _ G' .rfl' rfl⟩)
theorem de_and (hK : X.K = Z.K) (ha : PE X ea (tE Z Fo W f)) (hb : PE X (.BoolOp .And (eb :: rest) pos) (tE Z Fo W r)) : PE X (.BoolOp .And (ea :: eb :: rest) pos) (tE Z Fo W (andM f r)) :=
  (pe_andT ha hb).imp fun σ H Q h => rd_andM hK h
theorem de_or (hK : X.K = Z.K) (ha : PE X ea (tE Z Fo W f)) (hb : PE X (.BoolOp .Or (eb :: rest) pos) (tE Z Fo W r)) : PE X (.BoolOp .Or (ea :: eb :: rest) pos) (tE Z Fo W (orM f r)) :=
  (pe_orT ha hb).imp fun σ H Q h => rd_orM hK h
theorem de_ite (hc : PT X ec (tT Z Fo W tf)) (ha : PE X ea (tE Z Fo W f)) (hb : PE X eb (tE Z Fo W r)) : PE X (.IfExp ec ea eb pos) (tE Z Fo W (iteM tf f r)) :=
  (pe_ifExp hc ha hb).imp fun σ H Q h => rd_ite h
theorem dt_and (ha : PT X ea (tT Z Fo W tf)) (hb : PW X (.BoolOp .And (eb :: rest) pos) (tT Z Fo W tr)) : PW X (.BoolOp .And (ea :: eb :: rest) pos) (tT Z Fo W (andT tf tr)) :=
  ⟨fun wh pins s σ H Q I k => (pw_and ha hb).run wh pins s σ H Q I (rd_and k)⟩
theorem dt_or (ha : PT X ea (tT Z Fo W tf)) (hb : PW X (.BoolOp .Or (eb :: rest) pos) (tT Z Fo W tr)) : PW X (.BoolOp .Or (ea :: eb :: rest) pos) (tT Z Fo W (orT tf tr)) :=
  ⟨fun wh pins s σ H Q I k => (pw_or ha hb).run wh pins s σ H Q I (rd_or k)⟩
theorem dt_not (ha : PT X ea (tT Z Fo W tf)) : PT X (.UnaryOp .Not ea pos) (tT Z Fo W (notT tf)) := (pt_not ha).imp fun σ H Q h => rd_not h
def plainT : Expr → Bool
  | .UnaryOp .Not _ _ => false
  | .BoolOp .. => false
  | .IfExp .. => false
  | .Compare .. => false
  | _ => true
theorem plainT_eq {e : Expr} (h : plainT e = true) (env : Env) (whole : Sem Value) : isTrue e env whole = (do let v ← whole; standAt e.pos; holding [v] (truthy v)) := by
  cases e with
  | UnaryOp o x p => cases o <;> first | rfl | cases h
  | BoolOp => cases h
  | IfExp => cases h
  | Compare => cases h
  | _ => rfl
theorem dt_tru (hK : X.K = Z.K) (hp : plainT ea = true) (ha : PE X ea (tO Z Fo W a)) : PT X ea (tT Z Fo W (opd1 a truM)) :=
  (pt_truth ha (plainT_eq hp _)).imp fun σ H Q h => rd_tru hK h
end
end LB

namespace LB
open PySem L2

/-! ### built-in functions of one operand -/
def flatT : D → Option Bool
  | .non => some false
  | .bl b => some b
  | .int i => some (i != 0)
  | _ => none
def flatTs : List D → Option (List Bool)
  | [] => some []
  | d :: r => match flatT d, flatTs r with
    | some b, some bs => some (b :: bs)
    | _, _ => none
def intD : D → Option Int
  | .int i => some i
  | _ => none
def intsD : List D → Option (List Int)
  | [] => some []
  | d :: r => match intD d, intsD r with
    | some b, some bs => some (b :: bs)
    | _, _ => none
def tyD : D → Option String
  | .non => some "NoneType" | .bl _ => some "bool" | .int _ => some "int" | .str _ => some "str"
  | .tup _ => some "tuple" | .ktp _ => some "tuple" | .lst _ => some "list" | .dct _ _ => some "dict" | .kdc _ => some "dict"
  | _ => none
/-- of a type, or not -/
def isiD (c : String) (d : D) : Option Bool := (tyD d).bind fun t => if t = c then some true else if (t = "bool" ∧ c = "int") then some true else if c ∈ ["int", "str", "bool", "tuple", "list", "dict"] then some false else none
inductive Bi1 where
  | len | tuple | int | abs | all | any | sum | min | max | repr | isi (c : String)
def lenD : D → Option Nat
  | .str x => if x.length ≤ sizeLine then some x.length else none
  | .tup ds => some ds.length
  | .ktp ds => some ds.length
  | .lst ds => some ds.length
  | .dct false kvs => some kvs.length
  | _ => none
def repD (d : D) : Option Str := if SeqAt.shaped d.toP && d.toP.showable && decide (d.toP.shown.length ≤ sizeLine) then some d.toP.shown else none
def minL : Int → List Int → Int
  | a, [] => a
  | a, b :: r => minL (if b < a then b else a) r
def maxL : Int → List Int → Int
  | a, [] => a
  | a, b :: r => maxL (if b > a then b else a) r
def bi1D : Bi1 → D → Option D
  | .len, d => (lenD d).map fun (n : Nat) => D.int (n : Int)
  | .tuple, .tup ds => some (.tup ds)
  | .tuple, .lst ds => some (.tup ds)
  | .int, .int i => some (.int i)
  | .int, .bl b => some (.int (if b then 1 else 0))
  | .abs, .int i => some (.int (if i < 0 then -i else i))
  | .all, .lst ds => (flatTs ds).map fun bs => .bl (bs.all id)
  | .any, .lst ds => (flatTs ds).map fun bs => .bl (bs.any id)
  | .sum, .lst ds => (intsD ds).map fun ns => .int ns.sum
  | .min, .lst ds => (intsD ds).bind fun ns => match ns with
    | [] => none
    | n :: r => some (.int (minL n r))
  | .max, .lst ds => (intsD ds).bind fun ns => match ns with
    | [] => none
    | n :: r => some (.int (maxL n r))
  | .repr, d => (repD d).map .str
  | .isi c, d => (isiD c d).map .bl
  | _, _ => none
theorem minL_spec : ∀ (r : List Int) (a : Int), minL a r ∈ a :: r ∧ ∀ y ∈ a :: r, minL a r ≤ y
  | [], a => ⟨List.mem_cons_self, fun y h => by simp at h; subst h; exact Int.le_refl _⟩
  | b :: r, a => by
    obtain ⟨h1, h2⟩ := minL_spec r (if b < a then b else a)
    refine ⟨?_, fun y h => ?_⟩
    · show minL (if b < a then b else a) r ∈ a :: b :: r
      rcases List.mem_cons.mp h1 with h | h
      · rw [h]; split <;> simp
      · exact List.mem_cons_of_mem _ (List.mem_cons_of_mem _ h)
    · show minL (if b < a then b else a) r ≤ y
      generalize hq : (if b < a then b else a) = q at h2 ⊢
      have h0 := h2 q List.mem_cons_self
      rcases List.mem_cons.mp h with rfl | h
      · split at hq <;> omega
      · rcases List.mem_cons.mp h with rfl | h
        · split at hq <;> omega
        · exact h2 y (List.mem_cons_of_mem _ h)
theorem maxL_spec : ∀ (r : List Int) (a : Int), maxL a r ∈ a :: r ∧ ∀ y ∈ a :: r, y ≤ maxL a r
  | [], a => ⟨List.mem_cons_self, fun y h => by simp at h; subst h; exact Int.le_refl _⟩
  | b :: r, a => by
    obtain ⟨h1, h2⟩ := maxL_spec r (if b > a then b else a)
    refine ⟨?_, fun y h => ?_⟩
    · show maxL (if b > a then b else a) r ∈ a :: b :: r
      rcases List.mem_cons.mp h1 with h | h
      · rw [h]; split <;> simp
      · exact List.mem_cons_of_mem _ (List.mem_cons_of_mem _ h)
    · show y ≤ maxL (if b > a then b else a) r
      generalize hq : (if b > a then b else a) = q at h2 ⊢
      have h0 := h2 q List.mem_cons_self
      rcases List.mem_cons.mp h with rfl | h
      · split at hq <;> omega
      · rcases List.mem_cons.mp h with rfl | h
        · split at hq <;> omega
        · exact h2 y (List.mem_cons_of_mem _ h)
section
variable {Z : Stc} {Fo : Hp} {W : WX} {g g' : Gh} {m m' : Mst} {σ : L2.St} {H : Hp} {N N' : Nat} {G0 : Hp} {μ0 : Nat → Addr} {X : Cx}
theorem DVs.ofInts : ∀ {ds : List D} {vs : List V} {ns : List Int}, DVs Z G0 μ0 N ds vs → intsD ds = some ns → vs = ns.map V.int
  | _, _, _, .nil, h => by cases h; rfl
  | d :: ds, v :: vs, ns, .cons h1 h2, h => by
    unfold intsD at h
    cases d with
    | int i =>
      cases e2 : intsD ds with
      | none => rw [e2] at h; cases h
      | some ks' =>
        rw [e2] at h
        cases h
        cases h1
        rw [DVs.ofInts h2 e2]
        rfl
    | _ => cases h
theorem truth_flat {P : Program} {w : World} {A : Around} : ∀ {ds : List D} {vs : List V} {its : List Value} {bs : List Bool}, DVs Z G0 μ0 N ds vs → Vals vs its → flatTs ds = some bs → bs.length = its.length ∧
    ∀ i v, its[i]? = some v → ∀ (s : Shared) (Q : Bool → Shared → Prop) (E : Value → Shared → Prop), Q (bs.getD i false) s → wpAny (model P w) A (truthy v) Q E s
  | _, _, _, _, .nil, .nil, h => by
    cases h
    exact ⟨rfl, fun i v e => by simp at e⟩
  | d :: ds, _, _, bs, .cons h1 h2, .cons r1 r2, h => by
    unfold flatTs at h
    cases e1 : flatT d with
    | none => rw [e1] at h; cases h
    | some b =>
      cases e2 : flatTs ds with
      | none => rw [e1, e2] at h; cases h
      | some bs' =>
        rw [e1, e2] at h
        cases h
        obtain ⟨l, ih⟩ := truth_flat (P := P) (w := w) (A := A) h2 r2 e2
        refine ⟨by simp [l], fun i v e s Q E q => ?_⟩
        cases i with
        | zero =>
          cases e
          have q : Q b s := q
          cases d with
          | non => cases e1; cases h1; cases r1; exact PyProof.Rows.truthy_none q
          | bl b' => cases e1; cases h1; cases r1; exact wpAny_truthy_bool q
          | int i => cases e1; cases h1; obtain ⟨t, rfl⟩ := r1; exact PyProof.Rows.truthy_int q
          | _ => cases e1
        | succ i => exact ih i v (by simpa using e) s Q E (by simpa using q)
theorem PV.typ {d : D} {v : V} {t : String} (G : Good Z Fo g m σ H) (r : PV Z g m.S.length H d v) (h : tyD d = some t) : TyX Z.K H v (.type t) := by
  cases d with
  | non => cases h; rw [r.non]; exact .base .non
  | bl b => cases h; rw [r.bl]; exact .base (.bl b)
  | int b => cases h; rw [r.int]; exact .base (.int b)
  | str b => cases h; rw [r.str]; exact .base (.str b)
  | tup ds => cases h; obtain ⟨a, vs, rfl, ha, _⟩ := r.tup' G; exact .base (.tup ha)
  | ktp ds =>
    cases h
    obtain ⟨a, vs, rfl, ha, _⟩ := r.ktp G
    rcases ha with (ha | ⟨o, ha⟩) | ⟨o, its, n, hl, hc, _⟩
    · exact .base (.tup ha)
    · exact .fTuple ha
    · exact .kTuple hl hc
  | lst ds =>
    cases h
    obtain ⟨a, vs, rfl, ha, _⟩ := r.lst G
    rcases ha with ha | ⟨o, ha⟩
    · exact .base (.lst ha)
    · exact .base (.frz ha)
  | dct t kvs =>
    cases h
    cases t with
    | false => obtain ⟨a, vs, rfl, ha, _⟩ := r.dct0 G; exact .base (.dK ha)
    | true => obtain ⟨a, vs, rfl, ha, _⟩ := r.dct1 G; exact .base (.dT ha)
  | kdc kvs =>
    cases h
    obtain ⟨a, es, n, rfl, kd, _⟩ := r.kdc
    exact .kDict kd.at_ rfl
  | _ => cases h
mutual
theorem hasDict_of_canLay : ∀ {d : PyData}, d.canLay0 = true → d.hasDict = false
  | .none, _ => rfl
  | .bool _, _ => rfl
  | .int _, _ => rfl
  | .str _, _ => rfl
  | .list xs, h => by simp only [PyData.canLay0] at h; simp only [PyData.hasDict]; exact hasDicts_of_canLay h
  | .tuple xs, h => by simp only [PyData.canLay0] at h; simp only [PyData.hasDict]; exact hasDicts_of_canLay h
  | .dict _, h => by cases h
theorem hasDicts_of_canLay : ∀ {ds : List PyData}, PyData.canLayAll0 ds = true → PyData.hasDictAll ds = false
  | [], _ => rfl
  | d :: ds, h => by
    simp only [PyData.canLayAll0, Bool.and_eq_true] at h
    simp only [PyData.hasDictAll, hasDict_of_canLay h.1, hasDicts_of_canLay h.2, Bool.or_self]
end
def clsNames : List String := ["int", "str", "bool", "tuple", "list", "dict"]
def tyNames : List String := ["NoneType", "bool", "int", "str", "tuple", "list", "dict"]
theorem kit_all : (tyNames.all fun t => clsNames.all fun c => kitB t c == some (t == c || (t == "bool" && c == "int"))) = true := by decide +kernel
theorem isi_kit {c : String} {d : D} {k : Bool} (h : isiD c d = some k) : ∃ t, tyD d = some t ∧ (c ∈ clsNames → kitB t c = some k) := by
  unfold isiD at h
  cases e : tyD d with
  | none => rw [e] at h; cases h
  | some t =>
    rw [e] at h
    have ht : t ∈ tyNames := by cases d <;> cases e <;> decide
    refine ⟨t, rfl, fun hc => ?_⟩
    have q := List.all_eq_true.mp (List.all_eq_true.mp kit_all t ht) c hc
    rw [beq_iff_eq] at q
    rw [q]
    dsimp only [Option.bind] at h
    by_cases c1 : t = c
    · rw [if_pos c1] at h; cases h; simp [c1]
    · rw [if_neg c1] at h
      by_cases c2 : t = "bool" ∧ c = "int"
      · rw [if_pos c2] at h; cases h; simp [c2.1, c2.2]
      · rw [if_neg c2, if_pos (show c ∈ ["int", "str", "bool", "tuple", "list", "dict"] from hc)] at h
        cases h
        have e1 : (t == c) = false := by simpa using c1
        have e2 : (t == "bool" && c == "int") = false := by
          cases q1 : (t == "bool") <;> cases q2 : (c == "int") <;> simp_all
        rw [e1, e2]; rfl
/-- a rule over what one operand is, told without a change -/
abbrev rP (Z : Stc) (Fo : Hp) (f : D → Option D) : List V → Hp → VK → Prop := fun xs H Q => ∃ g m σ x d e, xs = [x] ∧ Good Z Fo g m σ H ∧ PV Z g m.S.length H d x ∧ f d = some e ∧ ∀ v H' g', Good Z Fo g' m σ H' → Ext Fo g m.S.length g' m.S.length → DV Z g'.G g'.μ m.S.length e v → Q v H'
def Bi1.fn : Bi1 → Value
  | .len => .builtin "len" | .tuple => .type "tuple" | .int => .type "int" | .abs => .builtin "abs" | .all => .builtin "all" | .any => .builtin "any" | .sum => .builtin "sum"
  | .min => .builtin "min" | .max => .builtin "max" | .repr => .builtin "repr" | .isi _ => .builtin "isinstance"
def Bi1.nm : Bi1 → Str
  | .len => "len" | .tuple => "tuple" | .int => "int" | .abs => "abs" | .all => "all" | .any => "any" | .sum => "sum"
  | .min => "min" | .max => "max" | .repr => "repr" | .isi _ => "isinstance"
theorem bi_walk {P : Program} {w : World} {ds : List D} {vs : List V} {bs : List Bool} {pins : List (Addr × Obj)} {s : Shared} {a : Addr} (hc : X.calm = true) (I : L2.Inv X pins σ H s) (hl : Rd H a (.lst vs)) (dv : DVs Z G0 μ0 N ds vs) (hb : flatTs ds = some bs) :
    ∃ its : List Value, s.heap.IsList a its.toArray ∧ bs.length = its.length ∧ (∀ A : Around, TruthOf P w A (fun i v => its.toArray[i]? = some v) (fun i => bs.getD i false)) := by
  obtain ⟨z, its, n, r, e⟩ := I.lstR hl
  obtain ⟨l, t⟩ := truth_flat (P := P) (w := w) (A := X.A) dv r hb
  exact ⟨its, ⟨_, e, rfl, _, rfl⟩, l, fun A i v s Q E hv hq => (truth_flat (P := P) (w := w) (A := A) dv r hb).2 i v (by simpa using hv) s Q E hq⟩
theorem bi1_rule (hK : X.K = Z.K) (hc : X.calm = true) (hg : X.A.guards = some []) (hu : X.A.units + 66 < cLine) (b : Bi1) (hn : ∀ c, b = .isi c → False) : CallR X b.fn (rP Z Fo (bi1D b)) := by
  intro pins s σ' H' xs us Q I r ⟨g, m, σ, x, d, e, exs, G, pd, hd, q⟩
  subst exs
  obtain ⟨u, eu, rx⟩ := r.one
  have new : ∀ {xs : List D} {vs : List V}, DVs Z g.G g.μ m.S.length xs vs → (∀ v H'' g', Good Z Fo g' m σ H'' → Ext Fo g m.S.length g' m.S.length → DV Z g'.G g'.μ m.S.length (.tup xs) v → Q v H'') → ∀ p, H' p = none → Q (.ref p) (upd H' p (.tup vs)) := fun {xs vs} r h p n => by
    obtain ⟨G2, E2⟩ := G.laid (h := .tup vs) n
    exact h _ _ _ G2 E2 (.tup (show upd g.G p _ p = _ from upd_same) (r.ext E2))
  have old : ∀ {v : V}, DV Z g.G g.μ m.S.length e v → Q v H' := fun h => q _ _ _ G .rfl' h
  cases b with
  | isi c => exact (hn c rfl).elim
  | len =>
    cases hl : lenD d with
    | none => simp [bi1D, hl] at hd
    | some n =>
      simp only [bi1D, hl, Option.map_some, Option.some.injEq] at hd
      subst hd
      have sq : ∀ {vs : List V} {p : Addr} {k : Nat}, x = .ref p → (SqL X.K H' p vs ∨ SqT X.K H' p vs) → vs.length = k → DV Z g.G g.μ m.S.length (.int k) (.int k) → (k = n) → wpAny (model X.prog X.w) X.A (call (.builtin "len") us) (EP X pins σ' Q) X.xe s := fun {vs p k} e1 h1 h2 _ h3 => by
        subst e1 h3 h2
        exact call_len_seq pins s σ' H' _ us Q I r ⟨p, vs, rfl, h1, old (.int _)⟩
      cases d with
      | str z =>
        dsimp only [lenD] at hl
        by_cases c : z.length ≤ sizeLine
        · rw [if_pos c] at hl
          cases hl
          rw [pd.str] at r
          exact call_len_str pins s σ' H' _ us Q I r ⟨z, rfl, c, old (.int _)⟩
        · rw [if_neg c] at hl; cases hl
      | tup ds => obtain ⟨a, vs, ex, ha, _, dv⟩ := pd.tup G; exact sq ex (.inr (hK ▸ ha)) dv.length.symm (.int _) (Option.some.inj hl)
      | ktp ds => obtain ⟨a, vs, ex, ha, dv⟩ := pd.ktp G; exact sq ex (.inr (hK ▸ ha)) dv.length.symm (.int _) (Option.some.inj hl)
      | lst ds => obtain ⟨a, vs, ex, ha, dv⟩ := pd.lst G; exact sq ex (.inl (.inl ha)) dv.length.symm (.int _) (Option.some.inj hl)
      | dct t kvs =>
        cases t with
        | true => cases hl
        | false =>
          cases hl
          obtain ⟨a, ks, rfl, ha, dv⟩ := pd.dct0 G
          subst eu
          cases rx
          have el : kvs.length = ks.length := dv.length
          exact d_len I (.inl ha) fun t s' I' => ⟨.int ks.length, H', I', ⟨t, rfl⟩, old (by rw [el]; exact .int _)⟩
      | _ => cases hl
  | tuple =>
    match d, hd with
    | .tup ds, hd =>
      cases hd
      obtain ⟨a, vs, rfl, ha, hg, dv⟩ := pd.tup G
      exact call_tuple_of pins s σ' H' _ us Q I r ⟨a, vs, rfl, .inr ⟨hK ▸ ha, old (.tup hg dv)⟩⟩
    | .lst ds, hd =>
      cases hd
      obtain ⟨a, vs, rfl, ha, dv⟩ := pd.lst G
      exact call_tuple_of pins s σ' H' _ us Q I r ⟨a, vs, rfl, .inl ⟨.inl ha, new dv q⟩⟩
  | int =>
    match d, hd with
    | .int i, hd => cases hd; rw [pd.int] at r; exact call_int1 pins s σ' H' _ us Q I r (.inl ⟨i, rfl, old (.int _)⟩)
    | .bl i, hd => cases hd; rw [pd.bl] at r; exact call_int1 pins s σ' H' _ us Q I r (.inr ⟨i, rfl, old (.int _)⟩)
  | abs =>
    match d, hd with
    | .int i, hd => cases hd; rw [pd.int] at r; exact call_abs pins s σ' H' _ us Q I r ⟨i, rfl, old (.int _)⟩
  | sum =>
    match d, hd with
    | .lst ds, hd =>
      obtain ⟨a, vs, rfl, ha, dv⟩ := pd.lst G
      cases hi : intsD ds with
      | none => simp [bi1D, hi] at hd
      | some ns =>
        simp only [bi1D, hi, Option.map_some, Option.some.injEq] at hd
        subst hd
        have ev := dv.ofInts hi
        subst ev
        exact cr_sum hc pins s σ' H' _ us Q I r ⟨a, ns, rfl, .inl ha, old (.int _)⟩
  | min =>
    match d, hd with
    | .lst ds, hd =>
      obtain ⟨a, vs, rfl, ha, dv⟩ := pd.lst G
      cases hi : intsD ds with
      | none => simp [bi1D, hi] at hd
      | some ns =>
        have ev := dv.ofInts hi
        subst ev
        cases ns with
        | nil => simp [bi1D, hi] at hd
        | cons n ns =>
          simp only [bi1D, hi, Option.bind_some, Option.some.injEq] at hd
          subst hd
          refine cr_min hc pins s σ' H' _ us Q I r ⟨a, n :: ns, rfl, .inl ha, Nat.succ_pos _, fun k h1 h2 => ?_⟩
          obtain ⟨h3, h4⟩ := minL_spec ns n
          have e : k = minL n ns := by have a1 := h2 _ h3; have a2 := h4 _ h1; omega
          rw [e]
          exact old (.int _)
  | max =>
    match d, hd with
    | .lst ds, hd =>
      obtain ⟨a, vs, rfl, ha, dv⟩ := pd.lst G
      cases hi : intsD ds with
      | none => simp [bi1D, hi] at hd
      | some ns =>
        have ev := dv.ofInts hi
        subst ev
        cases ns with
        | nil => simp [bi1D, hi] at hd
        | cons n ns =>
          simp only [bi1D, hi, Option.bind_some, Option.some.injEq] at hd
          subst hd
          refine cr_max hc pins s σ' H' _ us Q I r ⟨a, n :: ns, rfl, .inl ha, Nat.succ_pos _, fun k h1 h2 => ?_⟩
          obtain ⟨h3, h4⟩ := maxL_spec ns n
          have e : k = maxL n ns := by have a1 := h2 _ h3; have a2 := h4 _ h1; omega
          rw [e]
          exact old (.int _)
  | all =>
    match d, hd with
    | .lst ds, hd =>
      obtain ⟨a, vs, rfl, ha, dv⟩ := pd.lst G
      cases hi : flatTs ds with
      | none => simp [bi1D, hi] at hd
      | some bs =>
        simp only [bi1D, hi, Option.map_some, Option.some.injEq] at hd
        subst hd
        subst eu
        cases rx
        obtain ⟨its, il, bl, tr⟩ := bi_walk (P := X.prog) (w := X.w) hc I ha dv hi
        refine call_all_walk (iter_any il fun s₂ e2 st hne => ?_)
        subst e2
        refine ⟨_, _, _, _, _, _, _, rfl, Walks.list (A := X.A.in1) (I.ok.hd hc) _ a hne its.toArray, st, tr _, fun h' tk hk => ⟨.bl (bs.all id), H', I.kept fun b o eo => hk b o (fun hm => ?_) (Heap.get?_push_of_some _ eo), ?_, old (.bl _)⟩⟩
        · rcases List.mem_cons.mp hm with e1 | hm
          · exact absurd (e1 ▸ Heap.lt_size eo) (Nat.lt_irrefl _)
          · cases hm
        · show Value.bool _ = Value.bool _
          rw [← all_range, bl, List.size_toArray]
  | any =>
    match d, hd with
    | .lst ds, hd =>
      obtain ⟨a, vs, rfl, ha, dv⟩ := pd.lst G
      cases hi : flatTs ds with
      | none => simp [bi1D, hi] at hd
      | some bs =>
        simp only [bi1D, hi, Option.map_some, Option.some.injEq] at hd
        subst hd
        subst eu
        cases rx
        obtain ⟨its, il, bl, tr⟩ := bi_walk (P := X.prog) (w := X.w) hc I ha dv hi
        refine call_any_walk (iter_any il fun s₂ e2 st hne => ?_)
        subst e2
        refine ⟨_, _, _, _, _, _, _, rfl, Walks.list (A := X.A.in1) (I.ok.hd hc) _ a hne its.toArray, st, tr _, fun h' tk hk => ⟨.bl (bs.any id), H', I.kept fun b o eo => hk b o (fun hm => ?_) (Heap.get?_push_of_some _ eo), ?_, old (.bl _)⟩⟩
        · rcases List.mem_cons.mp hm with e1 | hm
          · exact absurd (e1 ▸ Heap.lt_size eo) (Nat.lt_irrefl _)
          · cases hm
        · show Value.bool _ = Value.bool _
          rw [← any_range, bl, List.size_toArray]
  | repr =>
    cases hr : repD d with
    | none => simp [bi1D, hr] at hd
    | some z =>
      simp only [bi1D, hr, Option.map_some, Option.some.injEq] at hd
      subst hd
      subst eu
      unfold repD at hr
      by_cases c : (SeqAt.shaped d.toP && d.toP.showable && decide (d.toP.shown.length ≤ sizeLine)) = true
      · rw [if_pos c] at hr
        cases hr
        obtain ⟨c0, c3⟩ := Bool.and_eq_true_iff.mp c
        obtain ⟨c1, c2⟩ := Bool.and_eq_true_iff.mp c0
        have c4 := of_decide_eq_true c3
        have cl := SeqAt.canLay_of_shaped c1
        obtain ⟨as, rd⟩ := Dp.reads I d.toP x u (hK ▸ pd.dp G cl) rx
        have dep : d.toP.depth ≤ 64 := by
          unfold SeqAt.shaped at c1
          exact of_decide_eq_true (Bool.and_eq_true_iff.mp c1).2
        have nd : d.toP.hasDict = false := hasDict_of_canLay cl
        have fin : ∀ {t : Shared} {tk : Tok}, L2.Inv X pins σ' H' t → EP X pins σ' Q (.str d.toP.shown tk) t := fun {t tk} I' => ⟨.str _, H', I', ⟨_, rfl⟩, old (.str _)⟩
        cases hq : d.toP with
        | none =>
          rw [hq] at rd fin
          cases rd
          exact PySem.P.repr_of_none (fin (I.tok _))
        | bool b =>
          rw [hq] at rd fin
          cases rd
          exact PySem.P.repr_of_bool (fin (I.tok _))
        | int i =>
          rw [hq] at rd fin c2
          cases rd
          exact PySem.P.repr_of_int (of_decide_eq_true (by simpa [PyData.showable] using c2)) (fin (I.tok _))
        | str z =>
          rw [hq] at rd fin c4
          cases rd
          exact PySem.P.repr_of_str (fin (I.tok _)) (by simpa [PyData.shown] using c4)
        | list ds =>
          rw [hq] at rd fin c4 c2 nd dep
          obtain ⟨a, rfl⟩ := PyProof.Rows.isRef_of_reads rd rfl
          exact repr_of_reads' rd c2 (PyData.noDict_hsm nd) hg (by omega) (fun _ _ e => e) (fun h' u tk hk => fin (I.kept (t' := tk) hk)) c4
        | tuple ds =>
          rw [hq] at rd fin c4 c2 nd dep
          obtain ⟨a, rfl⟩ := PyProof.Rows.isRef_of_reads rd rfl
          exact repr_of_reads' rd c2 (PyData.noDict_hsm nd) hg (by omega) (fun _ _ e => e) (fun h' u tk hk => fin (I.kept (t' := tk) hk)) c4
        | dict k => rw [hq] at cl; cases cl
      · rw [if_neg c] at hr; cases hr
/-- b(x) -/
def bi1M (b : Bi1) (d : D) : Mo D := .opt (bi1D b d)
theorem rd_bi1 {f : D → Option D} {a : Opd} {Q : V → Hp → Prop} (h : tE Z Fo W (opd1 a fun d => .opt (f d)) σ H Q) : tO Z Fo W a σ H fun x H' => rP Z Fo f [x] H' Q := by
  obtain ⟨g, m, G, h⟩ := h
  refine rd_opd1 G h fun g' m' H' x d G' _ px p => ?_
  cases hk : f d with
  | none => simp only [hk] at p; exact p.elim
  | some k =>
    simp only [hk] at p
    exact ⟨g', m', σ, x, d, k, rfl, G', px, hk, p⟩
theorem de_bi1 {ea : Expr} {a : Opd} {p pos : Pos} {nm : Str} (hK : X.K = Z.K) (hc : X.calm = true) (hgu : X.A.guards = some []) (hu : X.A.units + 66 < cLine) (b : Bi1) (hn : ∀ c, b = .isi c → False) (hnm : nm = b.nm) (hg : Gl X nm) (hm : X.mg nm = none)
    (he : starEach [ea] X.env = [(false, eval ea X.env)]) (ha : PE X ea (tO Z Fo W a)) : PE X (.Call (.Name nm p) [ea] [] pos) (tE Z Fo W (opd1 a (bi1M b))) := by
  subst hnm
  have R := bi1_rule (Z := Z) (Fo := Fo) hK hc hgu hu b hn
  have A1 : PA X [ea] (tCons (tO Z Fo W a) tNil) := pa_cons ha pa_nil he
  cases b with
  | isi c => exact (hn c rfl).elim
  | len => exact (pe_callB R hg hm (by decide +kernel) A1 (he := he)).imp fun σ H Q h => rd_bi1 h
  | tuple => exact (pe_callTy R hg hm (by decide +kernel) A1 (he := he)).imp fun σ H Q h => rd_bi1 h
  | int => exact (pe_callTy R hg hm (by decide +kernel) A1 (he := he)).imp fun σ H Q h => rd_bi1 h
  | abs => exact (pe_callB R hg hm (by decide +kernel) A1 (he := he)).imp fun σ H Q h => rd_bi1 h
  | all => exact (pe_callB R hg hm (by decide +kernel) A1 (he := he)).imp fun σ H Q h => rd_bi1 h
  | any => exact (pe_callB R hg hm (by decide +kernel) A1 (he := he)).imp fun σ H Q h => rd_bi1 h
  | sum => exact (pe_callB R hg hm (by decide +kernel) A1 (he := he)).imp fun σ H Q h => rd_bi1 h
  | min => exact (pe_callB R hg hm (by decide +kernel) A1 (he := he)).imp fun σ H Q h => rd_bi1 h
  | max => exact (pe_callB R hg hm (by decide +kernel) A1 (he := he)).imp fun σ H Q h => rd_bi1 h
  | repr => exact (pe_callB R hg hm (by decide +kernel) A1 (he := he)).imp fun σ H Q h => rd_bi1 h
end
end LB

namespace LB
open PySem L2

/-! ### items, cuts -/
def ixD (d k : D) : Option D := match d, k with
  | .tup ds, .int i => atI ds i
  | .lst ds, .int i => atI ds i
  | .ktp ds, .int i => atI ds i
  | .str z, .int i => if z.length ≤ sizeLine then (atI z.cps.toList i).map fun c => .str ⟨#[c]⟩ else none
  | d, k => (getD? d k).join
def cutD (ds : List D) (lo hi : Option Int) : List D := (ds.drop (HT.sIx ds.length 0 lo)).take (HT.sIx ds.length ds.length hi - HT.sIx ds.length 0 lo)
section
variable {Z : Stc} {Fo : Hp} {W : WX} {g g' : Gh} {m m' : Mst} {σ : L2.St} {H : Hp} {N N' : Nat} {G0 : Hp} {μ0 : Nat → Addr} {X : Cx}
theorem DVs.at {ds : List D} {vs : List V} {i : Int} {d : D} (h : DVs Z G0 μ0 N ds vs) (e : atI ds i = some d) : ∃ v, atI vs i = some v ∧ DV Z G0 μ0 N d v := by
  unfold atI at e ⊢
  rw [← h.length]
  cases q : ixN ds.length i with
  | none => rw [q] at e; cases e
  | some j =>
    rw [q] at e
    exact h.get e
theorem DVs.cut {ds : List D} {vs : List V} (lo hi : Option Int) (h : DVs Z G0 μ0 N ds vs) : DVs Z G0 μ0 N (cutD ds lo hi) (cutV vs lo hi) := by
  unfold cutD cutV
  rw [h.length]
  exact (h.drop _).take _
theorem plainIx {b : Expr} (h : ∀ lo hi p, b ≠ .Slice lo hi none p) : PlainIx b := fun o i => by
  cases b with
  | Slice lo hi st p =>
    cases st with
    | none => exact absurd rfl (h lo hi p)
    | some x => rfl
  | _ => rfl
theorem ix_rule (hK : X.K = Z.K) (hw : X.w = Z.w) (hu : X.A.units + 65 < cLine) : IxR X (fun x y H Q => ∃ g m σ d e k, Good Z Fo g m σ H ∧ PV Z g m.S.length H d x ∧ PV Z g m.S.length H e y ∧ ixD d e = some k ∧ ∀ v, DV Z g.G g.μ m.S.length k v → Q v H) := by
  intro value slice pins s σ H x y v u Q I rx ry ⟨g, m, σ', d, e, k, G, pd, pe, hk, q⟩ hs
  have dic : (getD? d e).join = some k → wpAny (model X.prog X.w) X.A (PyProof.Rows.subscriptTail value slice v u) (EP X pins σ Q) X.xe s := fun h => by
    cases h0 : getD? d e with
    | none => rw [h0] at h; cases h
    | some o =>
      rw [h0] at h
      cases o with
      | none => cases h
      | some d' =>
        cases h
        obtain ⟨ty, wp⟩ := asked_item hK hw hu (asked G pd pe h0) I rx ry fun z dz => q z dz
        exact PyProof.Rows.tail_any ty PySem.F.slot_dict_getitem.lookup wp hs
  unfold ixD at hk
  split at hk
  · obtain ⟨a, vs, rfl, ha, hg, dv⟩ := pd.tup G
    obtain ⟨z, ez, dz⟩ := dv.at hk
    exact ix_tup value slice pins s σ H _ y v u Q I rx ry ⟨a, vs, _, z, rfl, pe.int, hK ▸ ha, ez, q z dz⟩ hs
  · obtain ⟨a, vs, rfl, ha, dv⟩ := pd.lst G
    obtain ⟨z, ez, dz⟩ := dv.at hk
    exact ix_list value slice pins s σ H _ y v u Q I rx ry ⟨a, vs, _, z, rfl, pe.int, .inl ha, ez, q z dz⟩ hs
  · obtain ⟨a, vs, rfl, ha, dv⟩ := pd.ktp G
    obtain ⟨z, ez, dz⟩ := dv.at hk
    exact ix_tup value slice pins s σ H _ y v u Q I rx ry ⟨a, vs, _, z, rfl, pe.int, hK ▸ ha, ez, q z dz⟩ hs
  · rename_i z i
    by_cases c : z.length ≤ sizeLine
    · rw [if_pos c] at hk
      cases h0 : atI z.cps.toList i with
      | none => rw [h0] at hk; cases hk
      | some cc =>
        rw [h0] at hk
        cases hk
        exact ix_str value slice pins s σ H x y v u Q I rx ry ⟨z, i, cc, pd.str, pe.int, c, h0, q _ (.str _)⟩ hs
    · rw [if_neg c] at hk; cases hk
  · exact dic hk
def ixM (d k : D) : Mo D := .opt (ixD d k)
theorem de_ix {ea eb : Expr} {a b : Opd} {pos : Pos} (hK : X.K = Z.K) (hw : X.w = Z.w) (hu : X.A.units + 65 < cLine) (ha : PE X ea (tO Z Fo W a)) (hb : PE X eb (tO Z Fo W b)) (hs : ∀ lo hi p, eb ≠ .Slice lo hi none p) :
    PE X (.Subscript ea eb pos) (tE Z Fo W (opd2 a b ixM)) :=
  (pe_ix (ix_rule (Fo := Fo) hK hw hu) ha hb (plainIx hs)).imp fun σ H Q ⟨g, m, G, h⟩ => rd_opd2 G h fun g' m' H' x y d e G' _ px py p => by
    cases hk : ixD d e with
    | none => simp only [ixM, hk] at p; exact p.elim
    | some k =>
      simp only [ixM, hk] at p
      exact ⟨g', m', σ, d, e, k, G', px, py, hk, fun v dv => p v _ _ G' .rfl' dv⟩

/-- a part of a cut: left out, or an int -/
abbrev Prt := Option (Mo D)
def tP (Z : Stc) (Fo : Hp) (W : WX) : Prt → TO
  | none => tNoPart
  | some f => tPart (tE Z Fo W f)
def prtM : Prt → Mo (Option Int)
  | none => .ret none
  | some f => f.bind fun d => match d with
    | .int i => .ret (some i)
    | _ => .no
def slM {γ : Type} (a : Opd) (lo hi : Prt) (op : D → Option Int → Option Int → Mo γ) : Mo γ := fun m => (a.pre m).bind fun x => Mo.bind (prtM lo) fun l => Mo.bind (prtM hi) fun h => fun m => match a.get x m with
  | some d => op d l h m
  | none => .no
theorem prt_pass {γ δ : Type} {R' : Gh → Nat → Hp → γ → δ → Prop} {P : δ → Hp → Prop} {p : Prt} {f : Option Int → Mo γ} {R : Option Int → Hp → Prop} (G : Good Z Fo g m σ H) (h : Pg Z Fo W R' g m.S.length σ P ((prtM p m).bind f))
    (k : ∀ o H' g' m', Good Z Fo g' m' σ H' → Ext Fo g m.S.length g' m'.S.length → Pg Z Fo W R' g' m'.S.length σ P (f o m') → R o H') : tP Z Fo W p σ H R := by
  cases p with
  | none => exact k none H g m G .rfl' h
  | some fo =>
    have h' : Pg Z Fo W R' g m.S.length σ P ((fo m).bind fun d => Mo.bind (match d with | .int i => Mo.ret (some i) | _ => Mo.no) f) := by
      have e : (prtM (some fo) m).bind f = (fo m).bind fun d => Mo.bind (match d with | .int i => Mo.ret (some i) | _ => Mo.no) f := by
        show ((fo m).bind _).bind f = _
        cases fo m <;> rfl
      rw [← e]
      exact h
    refine ⟨g, m, G, (Pg.bind (R := RD Z) h').imp fun v H' ⟨d, g', m', G', E, dv, _, p⟩ => ?_⟩
    cases d with
    | int i => cases dv; exact ⟨i, rfl, k (some i) H' g' m' G' E p⟩
    | _ => exact p.elim
theorem rd_sl {γ δ : Type} {R' : Gh → Nat → Hp → γ → δ → Prop} {P : δ → Hp → Prop} {a : Opd} {lo hi : Prt} {op : D → Option Int → Option Int → Mo γ} {r : V → Option Int → Option Int → Hp → Prop} (G : Good Z Fo g m σ H) (h : Pg Z Fo W R' g m.S.length σ P (slM a lo hi op m))
    (hop : ∀ g' m' H x l u d, Good Z Fo g' m' σ H → PV Z g' m'.S.length H d x → Pg Z Fo W R' g' m'.S.length σ P (op d l u m') → r x l u H) :
    tO Z Fo W a σ H fun x H1 => tP Z Fo W lo σ H1 fun l H2 => tP Z Fo W hi σ H2 fun u H3 => r x l u H3 := by
  refine opd_pass G h fun v H' d g' m' G' E p pv => prt_pass G' p fun l H2 g2 m2 G2 E2 p2 => prt_pass G2 p2 fun u H3 g3 m3 G3 E3 p3 => ?_
  cases e : a.get d m3 with
  | none => simp only [e] at p3; exact p3.elim
  | some x =>
    simp only [e] at p3
    exact hop g3 m3 H3 v l u x G3 (pv g3 m3 H3 x G3 (E2.trans E3) e) p3
/-- a tuple's, a text's cut; a list's is something new -/
def slD : D → Option Int → Option Int → Option D
  | .tup ds, lo, hi => some (.tup (cutD ds lo hi))
  | _, _, _ => none
def slN : D → Option Int → Option Int → Option Ob
  | .lst ds, lo, hi => some (.lst (cutD ds lo hi))
  | _, _, _ => none
theorem cut_whole {α : Type} {xs : List α} {lo hi : Option Int} (h : HT.sIx xs.length 0 lo = 0 ∧ HT.sIx xs.length xs.length hi = xs.length) : (xs.drop (HT.sIx xs.length 0 lo)).take (HT.sIx xs.length xs.length hi - HT.sIx xs.length 0 lo) = xs := by
  rw [h.1, h.2]; simp
theorem sl_rule (hK : X.K = Z.K) : L2.SlR X (fun x lo hi H Q => ∃ g m σ d e, Good Z Fo g m σ H ∧ PV Z g m.S.length H d x ∧ slD d lo hi = some e ∧ ∀ v H' g', Good Z Fo g' m σ H' → Ext Fo g m.S.length g' m.S.length → DV Z g'.G g'.μ m.S.length e v → Q v H') := by
  intro pins s σ H x v vl vu lo hi sl Q I rx hs pl pu ⟨g, m, σ', d, e, G, pd, hk, q⟩
  match d, hk with
  | .tup ds, hk =>
    cases hk
    obtain ⟨a, vs, rfl, ha, hg, dv⟩ := pd.tup G
    refine sl_tupA pins s σ H _ v vl vu lo hi sl Q I rx hs pl pu ⟨a, vs, rfl, hK ▸ ha, fun hw => ?_, fun _ p n => ?_⟩
    · rw [← dv.length] at hw
      have e : cutD ds lo hi = ds := cut_whole hw
      rw [e] at q
      exact q _ _ _ G .rfl' (.tup hg dv)
    · obtain ⟨G2, E2⟩ := G.laid (h := .tup (cutV vs lo hi)) n
      exact q _ _ _ G2 E2 (.tup (show upd g.G p _ p = _ from upd_same) ((dv.cut lo hi).ext E2))
theorem slN_rule : L2.SlR X (fun x lo hi H Q => ∃ g m σ d e, Good Z Fo g m σ H ∧ PV Z g m.S.length H d x ∧ slN d lo hi = some e ∧ ∀ v H', Good Z Fo g m σ H' → RN Z Fo g m.S.length H' e v → Q v H') := by
  intro pins s σ H x v vl vu lo hi sl Q I rx hs pl pu ⟨g, m, σ', d, e, G, pd, hk, q⟩
  match d, hk with
  | .lst ds, hk =>
    cases hk
    obtain ⟨a, vs, rfl, ha, dv⟩ := pd.lst G
    refine sl_list pins s σ H _ v vl vu lo hi sl Q I rx hs pl pu ⟨a, vs, rfl, .inl ha, fun p n => ?_⟩
    obtain ⟨f1, f2, f3⟩ := G.free n
    exact q _ _ (G.fresh n) ⟨p, _, rfl, upd_same, ⟨_, rfl, dv.cut lo hi⟩, f1, f2, f3⟩
def slDM (d : D) (l u : Option Int) : Mo D := .opt (slD d l u)
def slNM (d : D) (l u : Option Int) : Mo Ob := .opt (slN d l u)
variable {ea : Expr} {a : Opd} {lo hi : Option Expr} {pl ph : Prt} {p2 pos : Pos}
theorem de_sl (hK : X.K = Z.K) (ha : PE X ea (tO Z Fo W a)) (hl : PO X lo (tP Z Fo W pl)) (hh : PO X hi (tP Z Fo W ph)) : PE X (.Subscript ea (.Slice lo hi none p2) pos) (tE Z Fo W (slM a pl ph slDM)) :=
  (pe_slice (sl_rule (Fo := Fo) hK) ha hl hh).imp fun σ H Q ⟨g, m, G, h⟩ => rd_sl G h fun g' m' H' x l u d G' px p => by
    cases hk : slD d l u with
    | none => simp only [slDM, hk] at p; exact p.elim
    | some k =>
      simp only [slDM, hk] at p
      exact ⟨g', m', σ, d, k, G', px, hk, p⟩
theorem de_slN (ha : PE X ea (tO Z Fo W a)) (hl : PO X lo (tP Z Fo W pl)) (hh : PO X hi (tP Z Fo W ph)) : PE X (.Subscript ea (.Slice lo hi none p2) pos) (tN Z Fo W (slM a pl ph slNM)) :=
  (pe_slice (slN_rule (Z := Z) (Fo := Fo)) ha hl hh).imp fun σ H Q ⟨g, m, G, h⟩ => rd_sl G h fun g' m' H' x l u d G' px p => by
    cases hk : slN d l u with
    | none => simp only [slNM, hk] at p; exact p.elim
    | some k =>
      simp only [slNM, hk] at p
      exact ⟨g', m', σ, d, k, G', px, hk, fun v H2 G2 r => p v H2 g' G2 .rfl' r⟩
/-- xs[::-1] of a list -/
def revM : D → Mo Ob
  | .lst ds => .ret (.lst ds.reverse)
  | _ => .no
theorem de_rev {k : Nat} {p1 p3 : Pos} (hK : X.K = Z.K) (ha : PE X ea (tO Z Fo W a)) : PE X (.Subscript ea (.Slice none none (some (.UnaryOp .USub (.Constant (.int 1) k p1) p2)) p3) pos) (tN Z Fo W (opd1 a revM)) :=
  (pe_revL ha).imp fun σ H Q ⟨g, m, G, h⟩ => rd_opd1 G h fun g' m' H' x d G' _ px p => by
    cases d with
    | lst ds =>
      obtain ⟨b, vs, rfl, ha, dv⟩ := px.lst G'
      refine ⟨b, vs, rfl, .inl ha, fun q n => ?_⟩
      obtain ⟨f1, f2, f3⟩ := G'.free n
      exact p _ _ _ (G'.fresh n) .rfl' ⟨q, _, rfl, upd_same, ⟨_, rfl, dv.reverse⟩, f1, f2, f3⟩
    | _ => exact p.elim
end
end LB

namespace LB
open PySem L2

/-! ### places: a slot's own object, an object of the store -/
inductive Pl where
  | sl (i : Nat) | st (n : Nat)
def Pl.get (m : Mst) : Pl → Option Ob
  | .sl i => match m.ρ[i]? with
    | some (.own o) => some o
    | _ => none
  | .st n => match m.S[n]? with
    | some (.ob o) => some o
    | _ => none
def Pl.set (m : Mst) (o : Ob) : Pl → Mst
  | .sl i => { m with ρ := m.ρ.set i (.own o) }
  | .st n => { m with S := m.S.set n (.ob o) }
/-- where an operand's object stands -/
def Opd.pl (a : Opd) (d : D) (m : Mst) : Option Pl := match a.1 with
  | some i => match m.ρ[i]? with
    | some (.own _) => some (.sl i)
    | some (.va (.ref n)) => some (.st n)
    | _ => none
  | none => match d with
    | .ref n => some (.st n)
    | _ => none
/-- the value that a place's object is -/
def PlV (σ : L2.St) (μ : Nat → Addr) (v : V) : Pl → Prop
  | .sl i => σ[i]? = some (some v)
  | .st n => v = .ref (μ n)
section
variable {Z : Stc} {Fo : Hp} {W : WX} {g g' : Gh} {m m' : Mst} {σ : L2.St} {H : Hp} {N N' : Nat} {G0 : Hp} {μ0 : Nat → Addr} {X : Cx}
theorem Pl.set_len (p : Pl) (o : Ob) : (p.set m o).S.length = m.S.length := by
  cases p with
  | sl i => rfl
  | st n => show (m.S.set n _).length = _; rw [List.length_set]
/-- the object at an owned address is changed -/
theorem Good.chg (G : Good Z Fo g m σ H) {a : Addr} {w : Ow} {h' : HO} (ha : g.ow a = some w) :
    (∀ b o, g.G b = some o → upd H a h' b = some o) ∧ (∀ b o, Fo b = some o → upd H a h' b = some o) ∧
    (∀ i s, m.ρ[i]? = some s → w ≠ .sl i → SlR Z g m.S.length σ (upd H a h') i s) ∧
    (∀ n o, m.S[n]? = some o → w ≠ .lo n → w ≠ .di n → SoR Z g m.S.length (upd H a h') n o) ∧
    (∀ b w', g.ow b = some w' → g.G b = none ∧ Fo b = none ∧ ∃ o, upd H a h' b = some o) := by
  obtain ⟨a1, a2, u, a3⟩ := G.s.ow a w ha
  have ne : ∀ {b : Addr} {x : HO}, b ≠ a → H b = some x → upd H a h' b = some x := fun {b x} z e => by rw [upd_ne z]; exact e
  refine ⟨fun b o e => ne (fun z => by rw [z, a1] at e; cases e) (G.s.gh b o e), fun b o e => ne (fun z => by rw [z, a2] at e; cases e) (G.s.fo b o e), fun i s e hw => ?_, fun n o e h1 h2 => ?_, fun b w' e => ?_⟩
  · have x := G.sl i s e
    cases s with
    | un => trivial
    | va d => exact x
    | own o =>
      obtain ⟨b, h, x1, x2, x3, x4⟩ := x
      exact ⟨b, h, x1, x2, ne (fun z => by rw [z, ha] at x2; cases x2; exact hw rfl) x3, x4⟩
  · have x := G.s.st n o e
    cases o with
    | ob o =>
      obtain ⟨h, x1, x2, x3⟩ := x
      exact ⟨h, x1, ne (fun z => by rw [z, ha] at x1; cases x1; exact h1 rfl) x2, x3⟩
    | ins c fs =>
      obtain ⟨C, dx, fs', x1, x2, x3, x4, x5, x6⟩ := x
      exact ⟨C, dx, fs', x1, x2, ne (fun z => by rw [z, ha] at x1; cases x1; exact h1 rfl) x3, ne (fun z => by rw [z, ha] at x5; cases x5; exact h2 rfl) x4, x5, x6⟩
  · obtain ⟨y1, y2, o, y3⟩ := G.s.ow b w' e
    by_cases z : b = a
    · exact ⟨y1, y2, h', by rw [z]; exact upd_same⟩
    · exact ⟨y1, y2, o, ne z y3⟩
theorem Good.pl (G : Good Z Fo g m σ H) {p : Pl} {o : Ob} (e : p.get m = some o) {v : V} (hv : PlV σ g.μ v p) :
    ∃ a h, v = .ref a ∧ H a = some h ∧ ObR Z g m.S.length o h ∧ ∀ o' h', ObR Z g m.S.length o' h' → Good Z Fo g (p.set m o') σ (upd H a h') := by
  cases p with
  | sl i =>
    unfold Pl.get at e
    cases e1 : m.ρ[i]? with
    | none => simp only [e1] at e; cases e
    | some s =>
      cases s with
      | own o1 =>
        simp only [e1] at e
        cases e
        obtain ⟨a, h, x1, x2, x3, x4⟩ := G.sl i _ e1
        have hv' : σ[i]? = some (some v) := hv
        rw [hv'] at x1
        cases x1
        refine ⟨a, h, rfl, x3, x4, fun o' h' r => ?_⟩
        obtain ⟨c1, c2, c3, c4, c5⟩ := G.chg (h' := h') x2
        refine ⟨⟨c1, c2, fun n q e => c4 n q e (fun z => by cases z) (fun z => by cases z), c5⟩, by show (m.ρ.set i _).length = _; rw [List.length_set]; exact G.len, fun j s' e' => ?_⟩
        have e' : (m.ρ.set i (.own o'))[j]? = some s' := e'
        by_cases z : i = j
        · subst z
          rw [List.getElem?_set_self (List.getElem?_eq_some_iff.mp e1).1] at e'
          cases e'
          exact ⟨a, h', hv', x2, upd_same, r⟩
        · rw [List.getElem?_set_ne z] at e'
          exact c3 j s' e' (fun q => by cases q; exact z rfl)
      | _ => simp only [e1] at e; cases e
  | st n =>
    unfold Pl.get at e
    cases e1 : m.S[n]? with
    | none => simp only [e1] at e; cases e
    | some s =>
      cases s with
      | ins c fs => simp only [e1] at e; cases e
      | ob o1 =>
        simp only [e1] at e
        cases e
        obtain ⟨h, x1, x2, x3⟩ := G.s.st n _ e1
        have hv' : v = .ref (g.μ n) := hv
        subst hv'
        refine ⟨g.μ n, h, rfl, x2, x3, fun o' h' r => ?_⟩
        obtain ⟨c1, c2, c3, c4, c5⟩ := G.chg (h' := h') x1
        have ln : (m.S.set n (.ob o')).length = m.S.length := List.length_set
        refine ⟨⟨c1, c2, fun k q e' => ?_, c5⟩, G.len, fun j s' e' => ?_⟩
        · have e' : (m.S.set n (.ob o'))[k]? = some q := e'
          show SoR Z g (m.S.set n (.ob o')).length _ k q
          rw [ln]
          by_cases z : n = k
          · subst z
            rw [List.getElem?_set_self (List.getElem?_eq_some_iff.mp e1).1] at e'
            cases e'
            exact ⟨h', x1, upd_same, r⟩
          · rw [List.getElem?_set_ne z] at e'
            exact c4 k q e' (fun y => by cases y; exact z rfl) (fun y => by cases y)
        · show SlR Z g (m.S.set n (.ob o')).length σ _ j s'
          rw [ln]
          exact c3 j s' e' (fun y => by cases y)

/-! ### methods that change their object -/
inductive Om where
  | append | extend | pop | popAt | reverse | clear | update
def putKD (kvs : List (D × D)) (k v : D) : List (D × D) :=
  if (kvs.any fun p => decide (keyD p.1 = keyD k)) = true then kvs.map (fun p => if keyD p.1 = keyD k then (p.1, v) else p) else kvs ++ [(k, v)]
def putTD (kvs : List (D × D)) (k v : D) : List (D × D) :=
  if (kvs.any fun p => decide (keyT p.1 = keyT k)) = true then kvs.map (fun p => if keyT p.1 = keyT k then (p.1, v) else p) else kvs ++ [(k, v)]
def mergeD (kvs more : List (D × D)) : List (D × D) := more.foldl (fun acc kv => putKD acc kv.1 kv.2) kvs
/-- the object behind, what is told -/
def omD : Om → Ob → List D → Option (Ob × D)
  | .append, .lst ds, [x] => if ds.length < sizeLine then some (.lst (ds ++ [x]), .non) else none
  | .extend, .lst ds, [x] => (match x with
    | .lst es => some es
    | .tup es => some es
    | _ => none).bind fun es => if ds.length + es.length ≤ sizeLine then some (.lst (ds ++ es), .non) else none
  | .pop, .lst ds, [] => ds[ds.length - 1]?.map fun x => (.lst ds.dropLast, x)
  | .reverse, .lst ds, [] => some (.lst ds.reverse, .non)
  | .clear, .lst _, [] => some (.lst [], .non)
  | .update, .dct false kvs, [.dct false more] => if kvs.length + more.length ≤ sizeLine then some (.dct false (mergeD kvs more), .non) else none
  | _, _, _ => none
def Om.ty : Om → String
  | .update => "dict"
  | _ => "list"
def Om.id : Om → String
  | .append => "list.append" | .extend => "list.extend" | .pop => "list.pop" | .popAt => "list.pop" | .reverse => "list.reverse" | .clear => "list.clear" | .update => "dict.update"
def Om.nm : Om → Str
  | .append => "append" | .extend => "extend" | .pop => "pop" | .popAt => "pop" | .reverse => "reverse" | .clear => "clear" | .update => "update"
theorem DVk.snoc : ∀ {kvs : List (D × D)} {ks : List (Key × V)} {k : D} {k' : Key} {d : D} {w : V}, DVk Z G0 μ0 N kvs ks → keyD k = some k' → DV Z G0 μ0 N d w → DVk Z G0 μ0 N (kvs ++ [(k, d)]) (ks ++ [(k', w)])
  | _, _, _, _, _, _, .nil, e, r => .cons e r .nil
  | _, _, _, _, _, _, .cons a b c, e, r => .cons a b (DVk.snoc c e r)
theorem DVk.any : ∀ {kvs : List (D × D)} {ks : List (Key × V)} {k : D} {k' : Key}, DVk Z G0 μ0 N kvs ks → keyD k = some k' → (kvs.any fun p => decide (keyD p.1 = keyD k)) = ks.any fun kv => decide (kv.1 = k')
  | _, _, _, _, .nil, e => rfl
  | (x, d) :: r, (y, v) :: s, k, k', .cons a b c, e => by
    rw [List.any_cons, List.any_cons, DVk.any c e, a, e]
    congr 1
    by_cases h : y = k' <;> simp [h]
theorem DVk.rep : ∀ {kvs : List (D × D)} {ks : List (Key × V)} {k : D} {k' : Key} {d : D} {w : V}, DVk Z G0 μ0 N kvs ks → keyD k = some k' → DV Z G0 μ0 N d w → DVk Z G0 μ0 N (kvs.map fun p => if keyD p.1 = keyD k then (p.1, d) else p) (ks.map fun kv => if kv.1 = k' then (kv.1, w) else kv)
  | _, _, _, _, _, _, .nil, e, r => .nil
  | (x, d') :: r', (y, v) :: s, k, k', d, w, .cons a b c, e, r => by
    rw [List.map_cons, List.map_cons]
    have ih := DVk.rep c e r
    by_cases h : y = k'
    · rw [if_pos (by rw [a, e, h]), if_pos h]
      exact .cons a r ih
    · rw [if_neg (by rw [a, e]; simpa using h), if_neg h]
      exact .cons a b ih
theorem DVk.put {kvs : List (D × D)} {ks : List (Key × V)} {k : D} {k' : Key} {d : D} {w : V} (h : DVk Z G0 μ0 N kvs ks) (e : keyD k = some k') (r : DV Z G0 μ0 N d w) : DVk Z G0 μ0 N (putKD kvs k d) (putK ks k' w) := by
  unfold putKD putK
  rw [h.any e]
  split
  · exact h.rep e r
  · exact h.snoc e r
theorem DVt.snoc : ∀ {kvs : List (D × D)} {ks : List (List Key × V)} {k : D} {k' : List Key} {d : D} {w : V}, DVt Z G0 μ0 N kvs ks → LB.keyT k = some k' → DV Z G0 μ0 N d w → DVt Z G0 μ0 N (kvs ++ [(k, d)]) (ks ++ [(k', w)])
  | _, _, _, _, _, _, .nil, e, r => .cons e r .nil
  | _, _, _, _, _, _, .cons a b c, e, r => .cons a b (DVt.snoc c e r)
theorem DVt.any : ∀ {kvs : List (D × D)} {ks : List (List Key × V)} {k : D} {k' : List Key}, DVt Z G0 μ0 N kvs ks → LB.keyT k = some k' → (kvs.any fun p => decide (LB.keyT p.1 = LB.keyT k)) = ks.any fun kv => decide (kv.1 = k')
  | _, _, _, _, .nil, e => rfl
  | (x, d) :: r, (y, v) :: s, k, k', .cons a b c, e => by
    rw [List.any_cons, List.any_cons, DVt.any c e, a, e]
    congr 1
    by_cases h : y = k' <;> simp [h]
theorem DVt.rep : ∀ {kvs : List (D × D)} {ks : List (List Key × V)} {k : D} {k' : List Key} {d : D} {w : V}, DVt Z G0 μ0 N kvs ks → LB.keyT k = some k' → DV Z G0 μ0 N d w → DVt Z G0 μ0 N (kvs.map fun p => if LB.keyT p.1 = LB.keyT k then (p.1, d) else p) (ks.map fun kv => if kv.1 = k' then (kv.1, w) else kv)
  | _, _, _, _, _, _, .nil, e, r => .nil
  | (x, d') :: r', (y, v) :: s, k, k', d, w, .cons a b c, e, r => by
    rw [List.map_cons, List.map_cons]
    have ih := DVt.rep c e r
    by_cases h : y = k'
    · rw [if_pos (by rw [a, e, h]), if_pos h]
      exact .cons a r ih
    · rw [if_neg (by rw [a, e]; simpa using h), if_neg h]
      exact .cons a b ih
theorem DVt.put {kvs : List (D × D)} {ks : List (List Key × V)} {k : D} {k' : List Key} {d : D} {w : V} (h : DVt Z G0 μ0 N kvs ks) (e : LB.keyT k = some k') (r : DV Z G0 μ0 N d w) : DVt Z G0 μ0 N (putTD kvs k d) (putK ks k' w) := by
  unfold putTD putK
  rw [h.any e]
  split
  · exact h.rep e r
  · exact h.snoc e r
theorem DVk.merge : ∀ {more : List (D × D)} {ms : List (Key × V)} {kvs : List (D × D)} {ks : List (Key × V)}, DVk Z G0 μ0 N more ms → DVk Z G0 μ0 N kvs ks → DVk Z G0 μ0 N (mergeD kvs more) (mergeK ks ms)
  | _, _, _, _, .nil, h => h
  | (x, d') :: r', (y, v) :: s, kvs, ks, .cons a b c, h => by
    show DVk Z G0 μ0 N (mergeD (putKD kvs x d') r') (mergeK (putK ks y v) s)
    exact DVk.merge c (h.put a b)
/-- d.update(e), both of ours -/
theorem d_update {pins : List (Addr × Obj)} {s : Shared} {A : Around} {E : Value → Shared → Prop} {a b : Addr} {ks ms : List (Key × V)} {Q : Value → Shared → Prop} (I : L2.Inv X pins σ H s) (e : H a = some (.dK ks)) (e2 : H b = some (.dK ms)) (ne : a ≠ b) (hz : ks.length + ms.length ≤ sizeLine)
    (h : ∀ s', L2.Inv X pins σ (upd H a (.dK (mergeK ks ms))) s' → Q .none s') : wpAny (model X.prog X.w) A (call (.builtin "dict.update") [.ref a, .ref b]) Q E s := by
  obtain ⟨z, hd, vs, rel, dd⟩ := dk_of I.hok e
  obtain ⟨z2, hd2, vs2, rel2, dd2⟩ := dk_of I.hok e2
  have l1 := rel.length
  have l2 := rel2.length
  refine call_meetsIn PySem.F.slot_dict_update dd.typeIs PySem.F.entry_dict_update (PySem.F.args_dict_update_2 _ _) (meets_dict_update (mixKind X.prog X.w) a b ne hd2) ⟨vs, vs2, dd, dd2, by omega, fun h' d1 d2 sb => ?_⟩
  refine h _ ?_
  have rr := rel2.merge rel
  obtain ⟨q, _, _, hq, _⟩ := id d1
  refine d_write (t' := s.toks) I (by rw [e]; exact trivial) sb ⟨q, hq⟩ (dk_new ?_ hd rr d1)
  exact Nat.le_trans (length_mergeK ms ks) hz
end
section
open PySem.AutoSeq1
set_option maxHeartbeats 1000000 in
theorem ext_tup (l : Addr) (items : Array Value) (n : Nat) (b : Addr) (items2 : Array Value) (n2 : Nat) (dd : Option Addr) (sl : Array (Option Value)) (h0 : ¬(!items.isEmpty && Builtin.List.listTooLong (items.size + items2.size)) = true) (h1 : items.size ≤ sizeLine)
    (h2 : items.size + items2.size ≤ sizeLine + 1) :
    Meets (Builtin.«list.extend» ⟨[.ref l, .ref b], []⟩) (fun _ R s => s.heap.get? l = some { cls := .type "list", data := .seq items n } ∧ s.heap.get? b = some { cls := .type "tuple", dict := dd, data := .seq items2 n2, slots := sl } ∧
      R (.ok (.ret Value.none)) { s with heap := s.heap.update l (Obj.mapSeq fun x => x ++ items2), toks := s.toks }) :=
  .of_wp fun prog w A R s ⟨hl, hb, h⟩ => by
    obtain ⟨hp, g, d, tk, os⟩ := s
    have f1 := idx_int
    have f2 := sub_tuple_tuple
    have f3 := sub_list_list
    have f4 := sub_tuple_list
    have f5 := sub_list_tuple
    have hz : (items ++ items2).size ≤ sizeLine + 1 := by rw [Array.size_append]; exact h2
    wp_walk using (wpAny_updateSeq hl rfl (hz := h1) (_hz' := hz)), wpAny_loadPart' hl, wpAny_loadPart' hb
    exact ⟨_, rfl, h⟩
end
section
variable {Z : Stc} {Fo : Hp} {W : WX} {g g' : Gh} {m m' : Mst} {σ : L2.St} {H : Hp} {N N' : Nat} {G0 : Hp} {μ0 : Nat → Addr} {X : Cx}
/-! ### the rules of these methods -/
def rOm (Z : Stc) (om : Om) : V → List V → Hp → VK → Prop := fun x xs H Q => ∃ a h g N o ds o' e, x = .ref a ∧ H a = some h ∧ (∀ b u, g.G b = some u → H b = some u ∧ b ≠ a) ∧ ObR Z g N o h ∧ DVs Z g.G g.μ N ds xs ∧ omD om o ds = some (o', e) ∧
  ∀ h' v, ObR Z g N o' h' → DV Z g.G g.μ N e v → Q v (upd H a h')
theorem om_rule (hK : X.K = Z.K) (om : Om) : MtR X om.id (rOm Z om) := by
  intro pins s σ H x xs v us Q I rx rxs ⟨a, h, g, N, o, ds, o', e, ex, ha, gh, ro, rd, hd, q⟩
  subst ex
  match om, o, ds, hd with
  | .append, .lst ds, [y], hd =>
    obtain ⟨vs, rfl, dv⟩ := ro
    cases rd with
    | cons r1 r2 =>
      cases r2
      by_cases c : ds.length < sizeLine
      · simp only [omD, if_pos c, Option.some.injEq, Prod.mk.injEq] at hd
        obtain ⟨rfl, rfl⟩ := hd
        exact mt_append pins s σ H _ _ v us Q I rx rxs ⟨a, vs, _, rfl, rfl, ha, by rw [← dv.length]; exact c, q _ _ ⟨_, rfl, dv.append (.cons r1 .nil)⟩ .non⟩
      · simp only [omD, if_neg c] at hd
        cases hd
  | .extend, .lst ds, [y], hd =>
    obtain ⟨vs, rfl, dv⟩ := ro
    cases rd with
    | cons r1 r2 =>
      cases r2
      match y, hd with
      | .lst es, hd =>
        by_cases c : ds.length + es.length ≤ sizeLine
        · simp only [omD, Option.bind_some, if_pos c, Option.some.injEq, Prod.mk.injEq] at hd
          obtain ⟨rfl, rfl⟩ := hd
          cases r1 with
          | lst hb dvb =>
            rename_i b ws
            have q' := q _ _ ⟨_, rfl, dv.append dvb⟩ .non
            obtain ⟨u, rfl, ru⟩ := rxs.one
            cases rx
            cases ru
            obtain ⟨z, its, n, r, e1⟩ := I.hok a _ ha
            have rdb : Rd H b (.lst ws) := by
              rcases hb with hb | ⟨o, hb⟩
              · exact .inl (gh _ _ hb).1
              · exact .inr ⟨o, (gh _ _ hb).1⟩
            obtain ⟨z2, its2, n2, r2, e2⟩ := I.lstR rdb
            have l1 := r.length
            have l2 := r2.length
            have l3 := dv.length
            have l4 := dvb.length
            have hsz : its.toArray.size + its2.toArray.size ≤ sizeLine := by rw [List.size_toArray, List.size_toArray]; omega
            have hl : ¬ (!its.toArray.isEmpty && Builtin.List.listTooLong (its.toArray.size + its2.toArray.size)) = true := by rw [notLongL hsz, Bool.and_false]; simp
            refine call_meets F.slot_list_extend ⟨_, e1, rfl⟩ F.entry_list_extend (F.args_list_extend_2 _ _) (AutoSeq1.list_extend_list_list_0 a its.toArray n b its2.toArray n2 hl (by rw [List.size_toArray]; omega) (by omega)) ⟨e1, e2, ?_⟩
            exact ⟨.non, _, I.lset (its' := its ++ its2) ha e1 (by simp) (r.append r2) (by rw [List.length_append]; omega), rfl, q'⟩
        · simp only [omD, Option.bind_some, if_neg c] at hd
          cases hd
      | .tup es, hd =>
        by_cases c : ds.length + es.length ≤ sizeLine
        · simp only [omD, Option.bind_some, if_pos c, Option.some.injEq, Prod.mk.injEq] at hd
          obtain ⟨rfl, rfl⟩ := hd
          cases r1 with
          | tup hb dvb =>
            rename_i b ws
            have q' := q _ _ ⟨_, rfl, dv.append dvb⟩ .non
            obtain ⟨u, rfl, ru⟩ := rxs.one
            cases rx
            cases ru
            obtain ⟨z, its, n, r, e1⟩ := I.hok a _ ha
            obtain ⟨z2, its2, r2, ⟨⟨cls, dd, data, sl⟩, e2, hc, n2, hdt⟩⟩ := I.hok b _ (gh _ _ hb).1
            simp only at hc hdt
            subst hc hdt
            have l1 := r.length
            have l2 := r2.length
            have l3 := dv.length
            have l4 := dvb.length
            have hsz : its.toArray.size + its2.toArray.size ≤ sizeLine := by rw [List.size_toArray, List.size_toArray]; omega
            have hl : ¬ (!its.toArray.isEmpty && Builtin.List.listTooLong (its.toArray.size + its2.toArray.size)) = true := by rw [notLongL hsz, Bool.and_false]; simp
            refine call_meets F.slot_list_extend ⟨_, e1, rfl⟩ F.entry_list_extend (F.args_list_extend_2 _ _) (ext_tup a its.toArray n b its2.toArray n2 dd sl hl (by rw [List.size_toArray]; omega) (by omega)) ⟨e1, e2, ?_⟩
            exact ⟨.non, _, I.lset (its' := its ++ its2) ha e1 (by simp) (r.append r2) (by rw [List.length_append]; omega), rfl, q'⟩
        · simp only [omD, Option.bind_some, if_neg c] at hd
          cases hd
  | .pop, .lst ds, [], hd =>
    obtain ⟨vs, rfl, dv⟩ := ro
    cases rd
    cases h0 : ds[ds.length - 1]? with
    | none => simp [omD, h0] at hd
    | some y =>
      simp only [omD, h0, Option.map_some, Option.some.injEq, Prod.mk.injEq] at hd
      obtain ⟨rfl, rfl⟩ := hd
      obtain ⟨w, ew, dw⟩ := dv.get h0
      rw [dv.length] at ew
      have dl : DVs Z g.G g.μ N ds.dropLast vs.dropLast := by rw [List.dropLast_eq_take, List.dropLast_eq_take, dv.length]; exact dv.take _
      exact mt_pop pins s σ H _ _ v us Q I rx rxs ⟨a, vs, w, rfl, rfl, ha, ew, q _ _ ⟨_, rfl, dl⟩ dw⟩
  | .reverse, .lst ds, [], hd =>
    obtain ⟨vs, rfl, dv⟩ := ro
    cases rd
    cases hd
    exact mt_reverse pins s σ H _ _ v us Q I rx rxs ⟨a, vs, rfl, rfl, ha, q _ _ ⟨_, rfl, dv.reverse⟩ .non⟩
  | .clear, .lst ds, [], hd =>
    obtain ⟨vs, rfl, dv⟩ := ro
    cases rd
    cases hd
    exact mt_clear pins s σ H _ _ v us Q I rx rxs ⟨a, vs, rfl, rfl, ha, q _ _ ⟨_, rfl, .nil⟩ .non⟩
  | .update, .dct false kvs, [.dct false more], hd =>
    obtain ⟨ks, rfl, dv⟩ := ro
    cases rd with
    | cons r1 r2 =>
      cases r2
      by_cases c : kvs.length + more.length ≤ sizeLine
      · simp only [omD, if_pos c, Option.some.injEq, Prod.mk.injEq] at hd
        obtain ⟨rfl, rfl⟩ := hd
        cases r1 with
        | dk hb dvb =>
          obtain ⟨u, rfl, ru⟩ := rxs.one
          cases rx
          cases ru
          obtain ⟨hb1, hb2⟩ := gh _ _ hb
          exact d_update I ha hb1 (fun z => hb2 z.symm) (by rw [← dv.length, ← dvb.length]; exact c) fun s' I' => ⟨.non, _, I', rfl, q _ _ ⟨_, rfl, dvb.merge dv⟩ .non⟩
      · simp only [omD, if_neg c] at hd
        cases hd
def Ob.ty : Ob → String
  | .lst _ => "list"
  | .dct _ _ => "dict"
/-- o.m(..), a method that changes its object -/
def omM (om : Om) (a : Opd) (f : Mo (List D)) : Mo D := fun m => (a.pre m).bind fun x m1 => match (a.pl x m1).bind (Pl.get m1) with
  | none => .no
  | some o1 => if o1.ty = om.ty then (f m1).bind fun ds m2 => match a.pl x m2 with
    | none => .no
    | some p => match p.get m2 with
      | none => .no
      | some o => match omD om o ds with
        | none => .no
        | some (o', e) => .ok e (p.set m2 o')
    else .no
theorem opd_pl_pass {γ δ : Type} {R' : Gh → Nat → Hp → γ → δ → Prop} {P : δ → Hp → Prop} {o : Opd} {f : D → Mo γ} {R : V → Hp → Prop} (G : Good Z Fo g m σ H) (h : Pg Z Fo W R' g m.S.length σ P ((o.pre m).bind f))
    (k : ∀ v H' d g' m', Good Z Fo g' m' σ H' → Ext Fo g m.S.length g' m'.S.length → Pg Z Fo W R' g' m'.S.length σ P (f d m') →
      (∀ g2 m2 H2 p, Good Z Fo g2 m2 σ H2 → Ext Fo g' m'.S.length g2 m2.S.length → o.pl d m2 = some p → PlV σ g2.μ v p) → R v H') : tO Z Fo W o σ H R := by
  obtain ⟨oi, fo⟩ := o
  cases oi with
  | none =>
    refine ⟨g, m, G, (Pg.bind (R := RD Z) h).imp fun v H' ⟨d, g', m', G', E, r, _, p⟩ => k v H' d g' m' G' E p fun g2 m2 H2 pp G2 E2 q => ?_⟩
    cases d with
    | ref n =>
      cases q
      cases r with
      | ref hn => show V.ref (g'.μ n) = V.ref (g2.μ n); rw [E2.mor.m n hn]
    | _ => cases q
  | some i =>
    have h' : Pg Z Fo W R' g m.S.length σ P ((match pkV i m with | some _ => Res.ok D.non m | none => Res.no).bind f) := h
    cases e : pkV i m with
    | none => rw [e] at h'; exact h'.elim
    | some d0 =>
      rw [e] at h'
      have hv : ∃ v, σ[i]? = some (some v) := by
        unfold pkV at e
        cases e1 : m.ρ[i]? with
        | none => rw [e1] at e; cases e
        | some s =>
          rw [e1] at e
          have x := G.sl i s e1
          cases s with
          | un => cases e
          | va d' => obtain ⟨v', q1, q2⟩ := x; exact ⟨v', q1⟩
          | own o => obtain ⟨a, h, q1, q2, q3, q4⟩ := x; exact ⟨_, q1⟩
      obtain ⟨v, ev⟩ := hv
      refine ⟨v, ev, k v H .non g m G .rfl' h' fun g2 m2 H2 pp G2 E2 q => ?_⟩
      unfold Opd.pl at q
      dsimp only at q
      cases e3 : m2.ρ[i]? with
      | none => rw [e3] at q; cases q
      | some s =>
        rw [e3] at q
        have x := G2.sl i s e3
        cases s with
        | un => cases q
        | own o => cases q; exact ev
        | va d =>
          cases d with
          | ref n =>
            cases q
            obtain ⟨v', q1, q2⟩ := x
            rw [ev] at q1
            cases q1
            cases q2
            rfl
          | _ => cases q
theorem tO_imp {o : Opd} {R R' : V → Hp → Prop} (h : tO Z Fo W o σ H R) (q : ∀ v H, R v H → R' v H) : tO Z Fo W o σ H R' := by
  obtain ⟨oi, fo⟩ := o
  cases oi with
  | none => obtain ⟨g, m, G, h⟩ := h; exact ⟨g, m, G, h.imp q⟩
  | some i => obtain ⟨v, e, h⟩ := h; exact ⟨v, e, q _ _ h⟩
theorem om_facts (om : Om) : ∃ (pa : PlainAttrs om.ty) (sl : Slot om.ty om.nm om.id), typeOf (.builtin om.id) = pure (.type "method_descriptor") := by
  cases om with
  | append => exact ⟨PySem.F.plainAttrs_list, PySem.F.slot_list_append, PySem.F.type_list_append⟩
  | extend => exact ⟨PySem.F.plainAttrs_list, PySem.F.slot_list_extend, PySem.F.type_list_extend⟩
  | pop => exact ⟨PySem.F.plainAttrs_list, PySem.F.slot_list_pop, PySem.F.type_list_pop⟩
  | popAt => exact ⟨PySem.F.plainAttrs_list, PySem.F.slot_list_pop, PySem.F.type_list_pop⟩
  | reverse => exact ⟨PySem.F.plainAttrs_list, PySem.F.slot_list_reverse, PySem.F.type_list_reverse⟩
  | clear => exact ⟨PySem.F.plainAttrs_list, PySem.F.slot_list_clear, PySem.F.type_list_clear⟩
  | update => exact ⟨PySem.F.plainAttrs_dict, PySem.F.slot_dict_update, PySem.F.type_dict_update⟩
theorem ObR.tyV {K : PySem.W.Frag} {o : Ob} {h : HO} {a : Addr} (r : ObR Z g N o h) (e : H a = some h) : tyV K o.ty (.ref a) H := by
  cases o with
  | lst ds => obtain ⟨vs, rfl, _⟩ := r; exact .inl ⟨rfl, vs, .inl (.inl e)⟩
  | dct t kvs =>
    cases t with
    | false => obtain ⟨vs, rfl, _⟩ := r; exact .inr (.inr (.inl ⟨rfl, .inl ⟨vs, e⟩⟩))
    | true => obtain ⟨vs, rfl, _⟩ := r; exact .inr (.inr (.inl ⟨rfl, .inr ⟨vs, e⟩⟩))
/-- the reading of such a call -/
theorem rd_om {K : PySem.W.Frag} {om : Om} {a : Opd} {f : Mo (List D)} {Q : V → Hp → Prop} (h : tE Z Fo W (omM om a f) σ H Q) :
    tO Z Fo W a σ H fun x H1 => tyV K om.ty x H1 ∧ tL Z Fo W f σ H1 fun xs H2 => rOm Z om x xs H2 Q := by
  obtain ⟨g, m, G, h⟩ := h
  refine opd_pl_pass G h fun v H' d g' m' G' E p pv => ?_
  cases e1 : a.pl d m' with
  | none => simp only [e1, Option.bind_none] at p; exact p.elim
  | some pl =>
    cases e2 : pl.get m' with
    | none => simp only [e1, Option.bind_some, e2] at p; exact p.elim
    | some o1 =>
      simp only [e1, Option.bind_some, e2] at p
      by_cases c : o1.ty = om.ty
      · rw [if_pos c] at p
        obtain ⟨a1, h1, rfl, x1, x2, _⟩ := G'.pl e2 (v := v) (pv g' m' H' pl G' .rfl' e1)
        refine ⟨c ▸ x2.tyV x1, g', m', G', (Pg.bind (R := RDs Z) p).imp fun xs H2 ⟨ds, g2, m2, G2, E2, rd, _, p2⟩ => ?_⟩
        cases e3 : a.pl d m2 with
        | none => simp only [e3] at p2; exact p2.elim
        | some p3 =>
          cases e4 : p3.get m2 with
          | none => simp only [e3, e4] at p2; exact p2.elim
          | some o =>
            cases e5 : omD om o ds with
            | none => simp only [e3, e4, e5] at p2; exact p2.elim
            | some oe =>
              obtain ⟨o', e⟩ := oe
              simp only [e3, e4, e5] at p2
              obtain ⟨a2, h2, ea2, y1, y2, y3⟩ := G2.pl e4 (v := .ref a1) (pv g2 m2 H2 p3 G2 E2 e3)
              cases ea2
              have ow : ∃ w, g2.ow a1 = some w := by
                cases p3 with
                | sl i =>
                  have q := pv g2 m2 H2 _ G2 E2 e3
                  unfold Pl.get at e4
                  cases e6 : m2.ρ[i]? with
                  | none => simp only [e6] at e4; cases e4
                  | some s =>
                    cases s with
                    | own o9 =>
                      obtain ⟨b, hb, z1, z2, _⟩ := G2.sl i _ e6
                      have q' : σ[i]? = some (some (V.ref a1)) := q
                      rw [q'] at z1
                      cases z1
                      exact ⟨_, z2⟩
                    | _ => simp only [e6] at e4; cases e4
                | st n =>
                  have q := pv g2 m2 H2 _ G2 E2 e3
                  have q' : V.ref a1 = V.ref (g2.μ n) := q
                  cases q'
                  unfold Pl.get at e4
                  cases e6 : m2.S[n]? with
                  | none => simp only [e6] at e4; cases e4
                  | some s =>
                    cases s with
                    | ins _ _ => simp only [e6] at e4; cases e4
                    | ob o9 => obtain ⟨hb, z1, _⟩ := G2.s.st n _ e6; exact ⟨_, z1⟩
              obtain ⟨w, ow⟩ := ow
              obtain ⟨n1, _, _⟩ := G2.s.ow _ _ ow
              refine ⟨a1, h2, g2, m2.S.length, o, ds, o', e, rfl, y1, fun b u hb => ⟨G2.s.gh b u hb, fun z => by rw [z, n1] at hb; cases hb⟩, y2, rd, e5, fun h' v ro dv => ?_⟩
              exact p2 v _ g2 (y3 o' h' ro) (by rw [Pl.set_len]; exact .rfl') (by rw [Pl.set_len]; exact dv)
      · rw [if_neg c] at p; exact p.elim
theorem de_om {ea e : Expr} {es : List Expr} {a : Opd} {f : Mo (List D)} {apos cpos : Pos} (hK : X.K = Z.K) (om : Om) {nm : Str} (hnm : nm = om.nm) (ha : PE X ea (tO Z Fo W a)) (hf : PA X (e :: es) (tL Z Fo W f)) (hb : attributeBase ea nm X.env (eval ea X.env) = eval ea X.env)
    (hfew : ((backTo cpos (starEach (e :: es) X.env)).all (fun x => !x.1) && (backToKw cpos (keywordEach [] X.env)).all (fun x => x.1.isSome) && decide ((e :: es).length + ([] : List Keyword).length + (if ([] : List Keyword).isEmpty then 0 else 1) < 30)) = true)
    (hl : (apos.endLine == cpos.line) = true) (hs : starEach (e :: es) X.env = (false, eval e X.env) :: starEach es X.env) (hp : (backTo cpos (starEach es X.env)).any (·.1) = false) :
    PE X (.Call (.Attribute ea nm apos) (e :: es) [] cpos) (tE Z Fo W (omM om a f)) := by
  subst hnm
  obtain ⟨pa, sl, ty⟩ := om_facts om
  exact (pe_bm pa sl ty (om_rule hK om) ha hf hb hfew hl hs hp).imp fun σ H Q h => rd_om h
theorem de_om0 {ea : Expr} {a : Opd} {apos cpos : Pos} (hK : X.K = Z.K) (om : Om) {nm : Str} (hnm : nm = om.nm) (ha : PE X ea (tO Z Fo W a)) (hb : attributeBase ea nm X.env (eval ea X.env) = eval ea X.env)
    (hl : (apos.endLine == cpos.line) = true) : PE X (.Call (.Attribute ea nm apos) [] [] cpos) (tE Z Fo W (omM om a (.ret []))) := by
  subst hnm
  obtain ⟨pa, sl, ty⟩ := om_facts om
  refine (pe_bm0 pa sl ty (om_rule hK om) ha hb hl).imp fun σ H Q h => ?_
  obtain h' := rd_om (K := X.K) h
  refine tO_imp h' fun x H1 ⟨t, q⟩ => ⟨t, rd_nil q⟩
end
end LB

namespace LB
open PySem L2

section
variable {Z : Stc} {Fo : Hp} {W : WX} {g g' : Gh} {m m' : Mst} {σ : L2.St} {H : Hp} {N N' : Nat} {G0 : Hp} {μ0 : Nat → Addr} {X : Cx} {ea eb ec : Expr} {a b c : Opd} {p p2 pos apos cpos : Pos}
/-! ### isinstance(x, T), min(i, j), max(i, j), list(x) -/
def clsOf (x : Str) : Option String := (["int", "str", "bool", "tuple", "list", "dict"] : List String).find? fun n => decide (Str.ofString n = x)
theorem clsOf_spec {x : Str} {c : String} (h : clsOf x = some c) : c ∈ clsNames ∧ x = Str.ofString c := ⟨List.mem_of_find?_eq_some h, by have q := List.find?_some h; exact (of_decide_eq_true q).symm⟩
theorem boot_cls : ∀ c ∈ clsNames, bootBuiltins (Str.ofString c) = some (.type c) ∧ Str.ofString c ≠ "__name__" ∧ (Str.ofString c == ("__debug__" : Str)) = false := by decide +kernel
theorem de_isi {x : Str} {c : String} (hK : X.K = Z.K) (hx : clsOf x = some c) (hg : Gl X "isinstance") (hm : X.mg "isinstance" = none) (hg2 : Gl X x) (hm2 : X.mg x = none)
    (he : starEach [ea, .Name x p2] X.env = [(false, eval ea X.env), (false, eval (.Name x p2) X.env)]) (ha : PE X ea (tO Z Fo W a)) :
    PE X (.Call (.Name "isinstance" p) [ea, .Name x p2] [] pos) (tE Z Fo W (opd1 a (bi1M (.isi c)))) := by
  obtain ⟨hc, rfl⟩ := clsOf_spec hx
  obtain ⟨b1, b2, b3⟩ := boot_cls c hc
  refine (pe_callB call_isi hg hm (by decide +kernel) (pa_cons ha (pa_cons (pe_bltn (v := .ty c) hg2 hm2 b1 rfl b2 b3) pa_nil (by rfl)) he) (he := he)).imp fun σ H Q ⟨g, m, G, h⟩ => rd_opd1 G h fun g' m' H' x d G' _ px q => ?_
  cases hk : isiD c d with
  | none => simp only [bi1M, bi1D, hk, Option.map_none] at q; exact q.elim
  | some k =>
    simp only [bi1M, bi1D, hk, Option.map_some] at q
    obtain ⟨t, ty, kk⟩ := isi_kit hk
    exact ⟨x, .ty c, .type t, .type c, k, rfl, .ty c, hK ▸ px.typ G' ty, kit_ty (kk hc), q _ _ _ G' .rfl' (.bl k)⟩
def mn2D (mx : Bool) : D → D → Option D
  | .int i, .int j => some (.int (if mx then (if j > i then j else i) else if j < i then j else i))
  | _, _ => none
def mn2M (mx : Bool) (d e : D) : Mo D := .opt (mn2D mx d e)
theorem de_mn2 (mx : Bool) {nm : Str} (hnm : nm = if mx then ("max" : Str) else "min") (hc : X.calm = true) (hg : Gl X nm) (hm : X.mg nm = none)
    (he : starEach [ea, eb] X.env = [(false, eval ea X.env), (false, eval eb X.env)]) (he2 : starEach [eb] X.env = [(false, eval eb X.env)]) (ha : PE X ea (tO Z Fo W a)) (hb : PE X eb (tO Z Fo W b)) : PE X (.Call (.Name nm p) [ea, eb] [] pos) (tE Z Fo W (opd2 a b (mn2M mx))) := by
  have key : ∀ {σ : L2.St} {H : Hp} {Q : V → Hp → Prop}, tE Z Fo W (opd2 a b (mn2M mx)) σ H Q → tO Z Fo W a σ H fun x H1 => tO Z Fo W b σ H1 fun y H2 => ∃ i j, x = .int i ∧ y = .int j ∧ Q (.int (if mx then (if j > i then j else i) else if j < i then j else i)) H2 := fun ⟨g, m, G, h⟩ => rd_opd2 G h fun g' m' H' x y d e G' _ px py q => by
    match d, e, q with
    | .int i, .int j, q => exact ⟨i, j, px.int, py.int, q _ _ _ G' .rfl' (.int _)⟩
  cases mx with
  | true =>
    subst hnm
    refine (pe_callB (call_max2 hc) hg hm (by decide +kernel) (pa_cons ha (pa_cons hb pa_nil he2) (by rw [he, he2])) (he := by rw [he, he2]) (hpl := by rw [he2]; rfl)).imp fun σ H Q h => tO_imp (key h) fun v H1 q => tO_imp q fun w H2 ⟨i, j, e1, e2, q2⟩ => ?_
    subst e1 e2
    exact ⟨i, j, rfl, q2⟩
  | false =>
    subst hnm
    refine (pe_callB (call_min2 hc) hg hm (by decide +kernel) (pa_cons ha (pa_cons hb pa_nil he2) (by rw [he, he2])) (he := by rw [he, he2]) (hpl := by rw [he2]; rfl)).imp fun σ H Q h => tO_imp (key h) fun v H1 q => tO_imp q fun w H2 ⟨i, j, e1, e2, q2⟩ => ?_
    subst e1 e2
    exact ⟨i, j, rfl, q2⟩
def listN : D → Mo Ob
  | .tup ds => .ret (.lst ds)
  | .ktp ds => .ret (.lst ds)
  | .lst ds => .ret (.lst ds)
  | _ => .no
theorem de_list (hK : X.K = Z.K) (hg : Gl X "list") (hm : X.mg "list" = none) (he : starEach [ea] X.env = [(false, eval ea X.env)]) (ha : PE X ea (tO Z Fo W a)) : PE X (.Call (.Name "list" p) [ea] [] pos) (tN Z Fo W (opd1 a listN)) := by
  refine (pe_callTy call_list_of hg hm (by decide +kernel) (pa_cons ha pa_nil he) (he := he)).imp fun σ H Q ⟨g, m, G, h⟩ => rd_opd1 G h fun g' m' H' x d G' _ px q => ?_
  have new : ∀ {ds : List D} {vs : List V}, DVs Z g'.G g'.μ m'.S.length ds vs → Pg Z Fo W (RN Z Fo) g' m'.S.length σ Q (.ok (.lst ds) m') → ∀ l, H' l = none → Q (.ref l) (upd H' l (.lst vs)) := fun r h p n => by
    obtain ⟨f1, f2, f3⟩ := G'.free n
    exact h _ _ _ (G'.fresh n) .rfl' ⟨p, _, rfl, upd_same, ⟨_, rfl, r⟩, f1, f2, f3⟩
  cases d with
  | tup ds => obtain ⟨b, vs, rfl, hb, _, r⟩ := px.tup G'; exact ⟨b, vs, rfl, .inr (hK ▸ hb), new r q⟩
  | ktp ds => obtain ⟨b, vs, rfl, hb, r⟩ := px.ktp G'; exact ⟨b, vs, rfl, .inr (hK ▸ hb), new r q⟩
  | lst ds => obtain ⟨b, vs, rfl, hb, r⟩ := px.lst G'; exact ⟨b, vs, rfl, .inl (.inl hb), new r q⟩
  | _ => exact q.elim

/-! ### d.get(k, x) -/
def isDct : D → Bool
  | .dct _ _ => true
  | _ => false
def dgetM (a : Opd) (f r : Mo D) : Mo D := fun m => (a.pre m).bind fun x m1 => if ((a.get x m1).map isDct) = some true then (f m1).bind fun k m2 => (r m2).bind fun z m3 => match a.get x m3 with
  | some (.dct t kvs) => match getD? (.dct t kvs) (look m3 k) with
    | some (some d) => .ok d m3
    | some none => .ok z m3
    | none => .no
  | _ => .no
  else .no
theorem de_dget {f r : Mo D} (hu : X.A.units + 65 < cLine) (ha : PE X ea (tO Z Fo W a)) (hb : PE X eb (tE Z Fo W f)) (hc : PE X ec (tE Z Fo W r)) (M : M2 X ea "get" apos eb ec cpos) : PE X (.Call (.Attribute ea "get" apos) [eb, ec] [] cpos) (tE Z Fo W (dgetM a f r)) := by
  refine (pe_dget2 (by omega) ha hb hc M).imp fun σ H Q ⟨g, m, G, h⟩ => opd_pass G h fun v H' d g' m' G' E p pv => ?_
  by_cases c : ((a.get d m').map isDct) = some true
  · rw [if_pos c] at p
    cases e1 : a.get d m' with
    | none => rw [e1] at c; cases c
    | some dd =>
      rw [e1] at c
      have pv1 := pv g' m' H' dd G' .rfl' e1
      have isd : ∃ b, v = .ref b ∧ IsD H' b := by
        cases dd with
        | dct t kvs =>
          cases t with
          | false => obtain ⟨b, ks, e, hb, _⟩ := pv1.dct0 G'; exact ⟨b, e, .inl ⟨ks, .inl hb⟩⟩
          | true => obtain ⟨b, ks, e, hb, _⟩ := pv1.dct1 G'; exact ⟨b, e, .inr ⟨ks, .inl hb⟩⟩
        | _ => cases c
      obtain ⟨b, rfl, isd⟩ := isd
      refine ⟨b, rfl, isd, g', m', G', (Pg.bind (R := RD Z) p).imp fun y H2 ⟨k, g2, m2, G2, E2, dk, _, p2⟩ => ⟨g2, m2, G2, (Pg.bind (R := RD Z) p2).imp fun z H3 ⟨zd, g3, m3, G3, E3, dz, _, p3⟩ => ?_⟩⟩
      cases e2 : a.get d m3 with
      | none => simp only [e2] at p3; exact p3.elim
      | some d3 =>
        have pv3 := pv g3 m3 H3 d3 G3 (E2.trans E3) e2
        cases d3 with
        | dct t kvs =>
          simp only [e2] at p3
          cases e3 : getD? (.dct t kvs) (look m3 k) with
          | none => simp only [e3] at p3; exact p3.elim
          | some o =>
            simp only [e3] at p3
            obtain ⟨b3, ro, ex, dg, rr⟩ := askedD G3 pv3 (pv_look G3 (dk.ext E3)) e3
            cases ex
            refine ⟨ro, dg, ?_⟩
            cases o with
            | none => cases ro with
              | none => exact p3 _ _ _ G3 .rfl' dz
              | some _ => exact rr.elim
            | some dv => cases ro with
              | none => exact rr.elim
              | some _ => exact p3 _ _ _ G3 .rfl' rr
        | _ => simp only [e2] at p3; exact p3.elim
  · rw [if_neg c] at p; exact p.elim
end
section
variable {Z : Stc} {W : WX} {X : Cx}
/-! ### a wider ground -/
theorem Good.weak {Fo Fo' : Hp} {g : Gh} {m : Mst} {σ : L2.St} {H : Hp} (G : Good Z Fo' g m σ H) (h : ∀ a o, Fo a = some o → Fo' a = some o) : Good Z Fo g m σ H :=
  ⟨⟨G.s.gh, fun a o e => G.s.fo a o (h a o e), G.s.st, fun a w e => by
    obtain ⟨y1, y2, y3⟩ := G.s.ow a w e
    refine ⟨y1, ?_, y3⟩
    cases q : Fo a with
    | none => rfl
    | some o => rw [h a o q] at y2; cases y2⟩, G.len, G.sl⟩
theorem Ext.weak {Fo Fo' : Hp} {g g' : Gh} {N N' : Nat} (E : Ext Fo' g N g' N') (h : ∀ a o, Fo a = some o → Fo' a = some o) : Ext Fo g N g' N' :=
  ⟨E.mor, fun a o e => (E.new a o e).imp_right fun y => by
    cases q : Fo a with
    | none => rfl
    | some o => rw [h a o q] at y; cases y⟩
theorem Good.under {Fo : Hp} {g : Gh} {m : Mst} {σ : L2.St} {H : Hp} {p : Addr} {o : HO} (G : Good Z Fo g m σ H) (n : H p = none) : Good Z (upd Fo p o) g m σ (upd H p o) := by
  have G1 := G.fresh (o := o) n
  obtain ⟨f1, f2, f3⟩ := G.free n
  refine ⟨⟨G1.s.gh, fun a u e => ?_, G1.s.st, fun a w e => ?_⟩, G1.len, G1.sl⟩
  · by_cases z : a = p
    · subst z; rw [upd_same] at e ⊢; exact e
    · rw [upd_ne z] at e ⊢; exact G.s.fo a u e
  · obtain ⟨y1, y2, y3⟩ := G1.s.ow a w e
    exact ⟨y1, by rw [upd_ne (fun z => by rw [z, f2] at e; cases e)]; exact y2, y3⟩
theorem Good.lift {Fo : Hp} {g0 g : Gh} {N : Nat} {m : Mst} {σ : L2.St} {H : Hp} {p : Addr} {o o' : HO} (G : Good Z (upd Fo p o) g m σ H) (f : Fo p = none) (E : Ext (upd Fo p o) g0 N g m.S.length) (f0 : g0.G p = none) :
    Good Z Fo g m σ (upd H p o') ∧ g.G p = none ∧ g.ow p = none := by
  have gp : g.G p = none := by
    cases q : g.G p with
    | none => rfl
    | some u =>
      rcases E.new p u q with h | h
      · rw [f0] at h; cases h
      · rw [upd_same] at h; cases h
  have ow : g.ow p = none := by
    cases q : g.ow p with
    | none => rfl
    | some w => have h := (G.s.ow p w q).2.1; rw [upd_same] at h; cases h
  have ne : ∀ {b : Addr} {x : HO}, b ≠ p → H b = some x → upd H p o' b = some x := fun {b x} z e => by rw [upd_ne z]; exact e
  have nw : ∀ {b : Addr} {w : Ow}, g.ow b = some w → b ≠ p := fun {b w} e z => by rw [z, ow] at e; cases e
  refine ⟨⟨⟨fun a u e => ne (fun z => by rw [z, gp] at e; cases e) (G.s.gh a u e), fun a u e => ?_, fun n s e => ?_, fun a w e => ?_⟩, G.len, fun i s e => ?_⟩, gp, ow⟩
  · have z : a ≠ p := fun z => by rw [z, f] at e; cases e
    exact ne z (G.s.fo a u (by rw [upd_ne z]; exact e))
  · have x := G.s.st n s e
    cases s with
    | ob o => obtain ⟨h, x1, x2, x3⟩ := x; exact ⟨h, x1, ne (nw x1) x2, x3⟩
    | ins c fs => obtain ⟨C, dx, fs', x1, x2, x3, x4, x5, x6⟩ := x; exact ⟨C, dx, fs', x1, x2, ne (nw x1) x3, ne (nw x5) x4, x5, x6⟩
  · obtain ⟨y1, y2, u, y3⟩ := G.s.ow a w e
    exact ⟨y1, by rw [upd_ne (nw e)] at y2; exact y2, u, ne (nw e) y3⟩
  · have x := G.sl i s e
    cases s with
    | un => trivial
    | va d => exact x
    | own ob => obtain ⟨a, h, x1, x2, x3, x4⟩ := x; exact ⟨a, h, x1, x2, ne (nw x2) x3, x4⟩
theorem sub_upd {Fo : Hp} {p : Addr} {o : HO} (n : Fo p = none) : ∀ a u, Fo a = some u → upd Fo p o a = some u := fun a u e => by
  rw [upd_ne (fun z => by rw [z, n] at e; cases e)]; exact e
/-- what is wanted over a wider ground, by what is wanted over the narrow one -/
theorem Pg.weak {α β : Type} {R : Gh → Nat → Hp → α → β → Prop} {Fo Fo' : Hp} {g : Gh} {N : Nat} {σ : L2.St} {Q Q' : β → Hp → Prop} {r : Res α} (h : Pg Z Fo W R g N σ Q r) (s : ∀ a o, Fo a = some o → Fo' a = some o)
    (q : ∀ a m v H g', Good Z Fo' g' m σ H → Ext Fo' g N g' m.S.length → R g' m.S.length H a v → r = .ok a m → (∀ v H g', Good Z Fo g' m σ H → Ext Fo g N g' m.S.length → R g' m.S.length H a v → Q v H) → Q' v H) : Pg Z Fo' W R g N σ Q' r := by
  cases r with
  | ok a m => exact fun v H g' G E rr => q a m v H g' G E rr rfl h
  | exc x m => exact fun c dd H g' G E ex => h c dd H g' (G.weak s) (E.weak s) ex
  | no => exact h

/-- over some ground -/
def tEx (Z : Stc) (W : WX) (f : Mo D) : TE := fun σ H Q => ∃ Fo, tE Z Fo W f σ H Q
def tTx (Z : Stc) (W : WX) (f : Mo Bool) : TT := fun σ H Q => ∃ Fo, tT Z Fo W f σ H Q
theorem pe_x {e : Expr} {f : Mo D} (h : ∀ Fo, PE X e (tE Z Fo W f)) : PE X e (tEx Z W f) := ⟨fun pins s σ H Q I ⟨Fo, k⟩ => (h Fo).run pins s σ H Q I k⟩
theorem pt_x {e : Expr} {f : Mo Bool} (h : ∀ Fo, PT X e (tT Z Fo W f)) : PT X e (tTx Z W f) := ⟨fun pins s σ H Q I ⟨Fo, k⟩ => (h Fo).run pins s σ H Q I k⟩
/-! ### a dict that is written -/
def prsM : List (Mo D × Mo D) → Mo (List (D × D))
  | [] => .ret []
  | (f, r) :: s => f.bind fun k => r.bind fun v => Mo.bind (prsM s) fun ps => .ret ((k, v) :: ps)
def okKeys (ps : List (D × D)) : Bool := ps.all fun p => (keyD p.1).isSome
def dctM (ps : List (Mo D × Mo D)) : Mo Ob := (prsM ps).bind fun kvs m => if okKeys kvs = true ∧ kvs.length ≤ 15 then .ok (.dct false (mergeD [] kvs)) m else .no
def RPs (Z : Stc) : Gh → Nat → Hp → List (D × D) → List (V × V) → Prop := fun g N _ ds vs => DVs Z g.G g.μ N (ds.map (·.1)) (vs.map (·.1)) ∧ DVs Z g.G g.μ N (ds.map (·.2)) (vs.map (·.2))
theorem rd_prs {Fo : Hp} {σ : L2.St} : ∀ {ps : List (Mo D × Mo D)} {g : Gh} {m : Mst} {H : Hp} {Q : List (V × V) → Hp → Prop}, Good Z Fo g m σ H → Pg Z Fo W (RPs Z) g m.S.length σ Q (prsM ps m) → tPairs (ps.map fun p => (tEx Z W p.1, tEx Z W p.2)) σ H Q
  | [], g, m, H, Q, G, h => h [] H g G .rfl' ⟨.nil, .nil⟩
  | (f, r) :: s, g, m, H, Q, G, h => by
    refine ⟨Fo, g, m, G, (Pg.bind (R := RD Z) h).imp fun k H1 ⟨dk, g1, m1, G1, E1, rk, _, p1⟩ => ⟨Fo, g1, m1, G1, (Pg.bind (R := RD Z) p1).imp fun v H2 ⟨dv, g2, m2, G2, E2, rv, _, p2⟩ => ?_⟩⟩
    refine rd_prs (ps := s) G2 ((Pg.bind (R := RPs Z) p2).imp fun vs H3 ⟨ds, g3, m3, G3, E3, ⟨q1, q2⟩, _, p3⟩ => p3 _ _ _ G3 .rfl' ⟨.cons ((rk.ext E2).ext E3) q1, .cons (rv.ext E3) q2⟩)
theorem prs_keys {G0 : Hp} {μ0 : Nat → Addr} {N : Nat} : ∀ {ds : List (D × D)} {vs : List (V × V)}, DVs Z G0 μ0 N (ds.map (·.1)) (vs.map (·.1)) → DVs Z G0 μ0 N (ds.map (·.2)) (vs.map (·.2)) → okKeys ds = true →
    ∃ ks : List (Key × V), vs = ks.map (fun kv => (kV kv.1, kv.2)) ∧ DVk Z G0 μ0 N ds ks
  | [], [], _, _, _ => ⟨[], rfl, .nil⟩
  | (a, b) :: ds, (x, y) :: vs, .cons h1 h2, .cons h3 h4, ok => by
    have ok' : (keyD a).isSome = true ∧ okKeys ds = true := by simpa [okKeys] using ok
    obtain ⟨ks, e, r⟩ := prs_keys h2 h4 ok'.2
    obtain ⟨k, ek⟩ := Option.isSome_iff_exists.mp ok'.1
    have ex : x = kV k := by
      cases a with
      | int i => cases ek; cases h1; rfl
      | str z => cases ek; cases h1; rfl
      | _ => cases ek
    exact ⟨(k, y) :: ks, by rw [List.map_cons, ex, e], .cons ek h3 r⟩
  | [], _ :: _, h, _, _ => by cases h
  | _ :: _, [], h, _, _ => by cases h
theorem de_dct {Fo : Hp} {ps : List (Mo D × Mo D)} {keys : List (Option Expr)} {values : List Expr} {pos : Pos} (h : PPs X pos keys values (ps.map fun p => (tEx Z W p.1, tEx Z W p.2))) (hall : keys.all (·.isSome) = true) (hl : keys.length = values.length) (h0 : keys ≠ [])
    (hz : keys.length ≤ 15) : PE X (.Dict keys values pos) (tN Z Fo W (dctM ps)) := by
  refine (pe_disp h hall hl h0 hz).imp fun σ H Q ⟨g, m, G, k⟩ p n => ?_
  obtain ⟨f1, _, f3⟩ := G.free n
  refine rd_prs (Fo := upd Fo p (.dK [])) (G.under n) ?_
  change Pg Z Fo W (RN Z Fo) g m.S.length σ Q ((prsM ps m).bind _) at k
  cases e : prsM ps m with
  | no => rw [e] at k; exact k.elim
  | exc x m1 =>
    rw [e] at k
    exact fun c dd H2 g2 G2 E2 ex => k c dd H2 g2 (G2.weak (sub_upd f3)) (E2.weak (sub_upd f3)) ex
  | ok ds m1 =>
    rw [e] at k
    simp only [Res.bind_ok] at k
    intro vs H2 g2 G2 E2 ⟨r1, r2⟩
    have hp : H2 p = some (.dK []) := G2.s.fo p _ upd_same
    by_cases c : okKeys ds = true ∧ ds.length ≤ 15
    · rw [if_pos c] at k
      obtain ⟨ks, ev, dk⟩ := prs_keys r1 r2 c.1
      refine ⟨hp, ks, ev, by rw [← dk.length]; exact c.2, ?_⟩
      obtain ⟨G3, gp, ow⟩ := G2.lift f3 E2 f1 (o' := .dK (mergeK [] ks))
      exact k _ _ g2 G3 (E2.weak (sub_upd f3)) ⟨p, _, rfl, upd_same, ⟨_, rfl, DVk.merge dk .nil⟩, gp, ow, f3⟩
    · rw [if_neg c] at k; exact k.elim
end
end LB

namespace LB
open PySem L2 PyProof.Rows

/-! ### what enumerate and zip go through: a list, a tuple, a text -/
inductive Src where
  | l (a : Addr) | t (a : Addr) | s (x : Str)
def signsV (x : Str) : List V := x.cps.toList.map fun c => .str ⟨#[c]⟩
namespace Src
def has (K : PySem.W.Frag) (H : Hp) : Src → List V → Prop
  | .l a, vs => SqL K H a vs
  | .t a, vs => SqT K H a vs
  | .s x, vs => vs = signsV x
def itn : Src → Addr → Nat → Heap → Prop
  | .l a, it, i, h => h.IsListIter it a i
  | .t a, it, i, h => h.IsTupleIter it a i
  | .s x, it, i, h => ∃ t, h.IsStrIter it (strIterType x) x t i
def adr : Src → List Addr
  | .l a => [a]
  | .t a => [a]
  | .s _ => []
def val : Src → V → Prop
  | .l a, v => v = .ref a
  | .t a, v => v = .ref a
  | .s x, v => v = .str x
end Src
section
variable {X : Cx} {pins : List (Addr × Obj)} {σ : L2.St} {H : Hp} {s : Shared} {q : Src} {vs ws : List V}
theorem Src.inj (I : Inv X pins σ H s) (h : q.has X.K H vs) (h' : q.has X.K H ws) : vs = ws := by
  cases q with
  | l a => exact I.list_inj h h'
  | t a => exact I.tuple_inj h h'
  | s x => exact Eq.trans h (Eq.symm h')
theorem Src.rec_at {it : Addr} {i : Nat} {h : Heap} (x : q.itn it i h) : ∃ o, h.get? it = some o ∧ ∀ v, o.data ≠ .cell v := by
  cases q with
  | l a => obtain ⟨o, e, _, d⟩ := x; exact ⟨o, e, fun v z => by rw [d] at z; cases z⟩
  | t a => obtain ⟨o, e, _, d⟩ := x; exact ⟨o, e, fun v z => by rw [d] at z; cases z⟩
  | s a => obtain ⟨t, o, e, _, d⟩ := x; exact ⟨o, e, fun v z => by rw [d] at z; cases z⟩
theorem Src.itn_at {it : Addr} {i : Nat} {h h' : Heap} (x : q.itn it i h) (k : ∀ o, h.get? it = some o → h'.get? it = some o) : q.itn it i h' := by
  cases q with
  | l a => exact Heap.IsListIter.at x k
  | t a => exact Heap.IsTupleIter.at x k
  | s a => obtain ⟨t, o, e, r⟩ := x; exact ⟨t, o, k o e, r⟩
theorem Src.lt (I : Inv X pins σ H s) (h : q.has X.K H vs) : ∀ a ∈ q.adr, a < s.heap.objs.size := by
  cases q with
  | l a =>
    intro b hb
    cases List.mem_singleton.mp hb
    obtain ⟨its, r, p, _⟩ := I.list h
    exact p.lt
  | t a =>
    intro b hb
    cases List.mem_singleton.mp hb
    obtain ⟨its, r, ⟨o, e, _⟩, _⟩ := I.tuple h
    exact Heap.lt_size e
  | s x => exact fun _ hb => nomatch hb
theorem back_at {vs : List V} {us : List Value} (r : Vals vs us) {i : Nat} {u : Value} (e : us[i]? = some u) : ∃ x, vs[i]? = some x ∧ RelV x u := by
  induction r generalizing i with
  | nil => simp at e
  | cons h r ih =>
    cases i with
    | zero => cases e; exact ⟨_, rfl, h⟩
    | succ i => exact ih (by simpa using e)
theorem off_new {n k : Nat} {l : List Addr} (h : ∀ a ∈ l, a < n) {j : Nat} (d : n + k ≠ j) : (n + k : Nat) ∉ (j : Addr) :: l := fun z => by
  rcases List.mem_cons.mp z with z | z
  · exact d z
  · exact absurd (h _ z) (by show ¬ (n + k < n); omega)
/-- what its iterator draws -/
theorem Src.draws {B : Around} (I : Inv X pins σ H s) (hh : B.handled = none) (h : q.has X.K H vs) {it : Addr} {i : Nat} (st : q.itn it i s.heap) (ne : it ∉ q.adr) :
    ∃ (P : Nat → Value → Prop) (St : Nat → Heap → Prop), Draws X.prog X.w B it (it :: q.adr) vs.length P St ∧ St i s.heap ∧ (∀ j h', St j h' → q.itn it j h') ∧ ∀ j v, P j v → ∃ x, vs[j]? = some x ∧ RelV x v := by
  cases q with
  | l a =>
    obtain ⟨its, r, p, _⟩ := I.list h
    refine ⟨fun i v => its.toArray[i]? = some v, fun i h => h.IsListIter it a i ∧ h.IsList a its.toArray, ?_, ⟨st, p.isList⟩, fun j h' z => z.1, fun j v e => back_at r (by simpa using e)⟩
    rw [r.length, ← List.size_toArray]
    exact Draws.list (A := B) hh it a (fun z => ne (by rw [← z]; exact List.mem_cons_self)) its.toArray
  | t a =>
    obtain ⟨its, r, p, _⟩ := I.tuple h
    refine ⟨fun i v => its.toArray[i]? = some v, fun i h => h.IsTupleIter it a i ∧ h.IsTuple a its.toArray, ?_, ⟨st, p⟩, fun j h' z => z.1, fun j v e => back_at r (by simpa using e)⟩
    rw [r.length, ← List.size_toArray]
    exact Draws.tuple (A := B) hh it a (fun z => ne (by rw [← z]; exact List.mem_cons_self)) its.toArray
  | s x =>
    obtain ⟨t, st⟩ := st
    cases h
    refine ⟨fun i v => ∃ c u, x.cps[i]? = some c ∧ v = .str ⟨#[c]⟩ u, fun i h => h.IsStrIter it (strIterType x) x t i, ?_, st, fun j h' z => ⟨t, z⟩, fun j v ⟨c, u, e, w⟩ => ⟨.str ⟨#[c]⟩, ?_, ?_⟩⟩
    · rw [show (signsV x).length = x.cps.size by simp [signsV]]
      exact Draws.text (A := B) hh it x t
    · unfold signsV
      rw [List.getElem?_map, Array.getElem?_toList, e]
      rfl
    · subst w; exact ⟨u, rfl⟩
theorem Src.begins (I : Inv X pins σ H s) (h : q.has X.K H vs) {v : V} {u : Value} (hv : q.val v) (r : RelV v u) : ∃ (o : Obj) (P : Heap → Prop), Begins u o P ∧ P s.heap ∧ ∀ h' it, h'.get? it = some o → q.itn it 0 h' := by
  cases q with
  | l a =>
    cases hv
    cases r
    obtain ⟨its, _, p, _⟩ := I.list h
    exact ⟨_, _, begins_list a its.toArray, p.isList, fun h' it e => ⟨_, e, rfl, rfl⟩⟩
  | t a =>
    cases hv
    cases r
    obtain ⟨its, _, p, _⟩ := I.tuple h
    exact ⟨_, _, begins_tuple a its.toArray, p, fun h' it e => ⟨_, e, rfl, rfl⟩⟩
  | s x =>
    cases hv
    obtain ⟨t, rfl⟩ := r
    exact ⟨_, _, begins_text x t, trivial, fun h' it e => ⟨t, _, e, rfl, rfl⟩⟩
end

set_option maxHeartbeats 1000000 in
theorem meets_en {v : Value} {o : Obj} {P : Heap → Prop} (B : Begins v o P) :
    Meets (Builtin.«enumerate.__new__» ⟨[.type "enumerate", v], []⟩) (fun _ R s => P s.heap ∧
      R (.ok (.ret (.ref (s.heap.push o).objs.size))) { s with heap := (s.heap.push o).push { cls := .type "enumerate", data := .fields #[.none, .bool false, .ref s.heap.objs.size, rawInt 0, .none, .none] } }) :=
  .of_wp fun prog w A R s h => by
    obtain ⟨hp, g, d, tk, os⟩ := s; obtain ⟨h1, h⟩ := h
    have sub := sub_enumerate
    have q1 : ∀ {A' : Around} {E : Value → Shared → Prop} {Q : Value → Shared → Prop}, Q (.ref hp.objs.size) ⟨hp.push o, g, d, tk, os⟩ → wpAny (model prog w) A' (pyIter v) Q E ⟨hp, g, d, tk, os⟩ :=
      fun z => B.iter prog w _ _ ⟨hp, g, d, tk, os⟩ _ h1 z
    wp_walk using q1
    refine wpAny_stack_any fun st => wpAny_pure ?_
    split
    · rename_i c _ _ _ _ _
      cases (c == Value.type "enumerate") <;>
      · wp_walk using q1
        exact ⟨_, rfl, h⟩
    · wp_walk using q1
      exact ⟨_, rfl, h⟩
section
variable {prog : Program} {w : World} {A : Around} {E : Value → Shared → Prop} {s : Shared}
theorem call_en {v : Value} {o : Obj} {P : Heap → Prop} {Q : Value → Shared → Prop} (B : Begins v o P) (h1 : P s.heap)
    (h : ∀ h', IsEnum h' (s.heap.objs.size + 1) s.heap.objs.size 0 .none → h'.get? s.heap.objs.size = some o →
      (∀ b o, s.heap.get? b = some o → h'.get? b = some o) → Q (.ref (s.heap.objs.size + 1)) { s with heap := h' }) :
    wpAny (model prog w) A (call (.type "enumerate") [v]) Q E s := by
  have sz : (s.heap.push o).objs.size = s.heap.objs.size + 1 := Heap.size_push ..
  have k1 : ∀ {o2 : Obj}, ((s.heap.push o).push o2).get? s.heap.objs.size = some o := Heap.get?_push_of_some _ (Heap.get?_push_size _ B.free)
  have k2 : ∀ {o2 : Obj}, o2.isFreed = false → ((s.heap.push o).push o2).get? (s.heap.objs.size + 1) = some o2 := fun {o2} f => by
    rw [← sz]; exact Heap.get?_push_size _ f
  refine callType_new F.called_enumerate (by decide) (F.typeCall_enumerate_1 _) (F.newCall_enumerate_1 _) (fun obj => F.args_object_init_2 obj _) F.entry_enumerate_new (meets_en B) ⟨h1, ?_⟩
  show _ ∧ _
  rw [sz]
  exact ⟨⟨_, k2 rfl, rfl⟩, h _ (k2 rfl) k1 fun b o x => Heap.get?_push_of_some _ (Heap.get?_push_of_some _ x)⟩
end

/-- enumerate: each turn a new pair -/
def ItE (K : PySem.W.Frag) (q : Src) : It :=
  ⟨fun i H => ∃ vs x, q.has K H vs ∧ vs[i]? = some x,
   fun i H v H' => ∃ T x, v = .ref T ∧ H T = none ∧ H' = upd H T (.tup [.int (i : Nat), x]) ∧ ∀ vs, q.has K H vs → vs[i]? = some x,
   fun i H => ∃ vs, q.has K H vs ∧ vs.length = i⟩
theorem turn_en {P : Program} {w : World} {K : PySem.W.Frag} {elts : List Expr} {kk : Nat} {tpos : Pos} {q : Src} {e it : Addr} (ne : e ∉ it :: q.adr) (ni : it ∉ q.adr) :
    Turn P w K (.Tuple elts kk tpos) (ItE K q) [e, it] e (fun i h => (∃ old, IsEnum h e it ((i : Nat) : Int) old) ∧ q.itn it i h) where
  mem := List.mem_cons_self
  obj := fun i h ⟨⟨old, he⟩, hi⟩ b hb => by
    rcases List.mem_cons.mp hb with z | z
    · subst z; exact ⟨_, he, fun v q => nomatch q⟩
    · cases List.mem_singleton.mp z; exact Src.rec_at hi
  keep := fun i h h' ⟨⟨old, he⟩, hi⟩ k => ⟨⟨old, k e List.mem_cons_self _ he⟩, Src.itn_at hi fun o z => k it (List.mem_cons_of_mem _ List.mem_cons_self) o z⟩
  item := by
    intro X hP hw hK hc i pins s σ H E I hf ⟨⟨old, he⟩, hit⟩ ⟨xs, x, hq, hx⟩
    subst hP hw hK
    obtain ⟨Pd, St, D, st, back, rel⟩ := Src.draws (B := X.A.in1) I (I.ok.hd hc) hq hit ni
    have nit : e ≠ it := fun z => ne (by rw [z]; exact List.mem_cons_self)
    have lt : i < xs.length := (List.getElem?_eq_some_iff.mp hx).1
    have hel : e < s.heap.objs.size := Heap.lt_size he
    have hil : it < s.heap.objs.size := by obtain ⟨o, z, _⟩ := Src.rec_at hit; exact Heap.lt_size z
    refine wpAny_pyNext_enum_itemD D he st lt nit ne fun u h' tk pu ho st' hT hsz hk => ⟨_, rfl, ?_⟩
    obtain ⟨y, ey, ru⟩ := rel i u pu
    rw [hx] at ey; cases ey
    refine wpAny_letOwnedTupleGo_enum (s := { s with heap := h', toks := tk + 1 }) ho fun h2 he2 sb => ?_
    have hT2 : h2.get? s.heap.objs.size = some { cls := .type "tuple", data := .seq #[.int i tk, u] } := (sb.2 _ (Nat.ne_of_gt hel)).trans hT
    have new : ObjOk X.prog X.w (upd H s.heap.objs.size (.tup [.int (i : Nat), x])) h2 s.heap.objs.size (.tup [.int (i : Nat), x]) :=
      ⟨by show 2 ≤ sizeLine; decide, [.int i tk, u], .cons ⟨_, rfl⟩ (.cons ru .nil), ⟨_, hT2, rfl, _, rfl⟩⟩
    have I1 : Inv X pins σ (upd H s.heap.objs.size (.tup [.int (i : Nat), x])) { s with heap := h2, toks := tk + 1 } :=
      I.turnedNew (ch := [e, it]) (fun b ob hb z => (sb.2 b (fun y => hb (by simp [y]))).trans (hk b ob (fun y => hb (by simp [y])) (fun y => hb (by simp [y])) z)) hf (Nat.le_refl _) new
    refine ⟨.ref s.heap.objs.size, _, I1, rfl, ⟨_, x, rfl, I.hok.fresh (Nat.le_refl _), rfl, fun ys hy => by rw [Src.inj I hy hq]; exact hx⟩, ⟨⟨u, ?_⟩, Src.itn_at (back _ _ st') fun o z => (sb.2 it (Ne.symm nit)).trans z⟩, fun b hb => ?_⟩
    · rw [show ((i + 1 : Nat) : Int) = (i : Int) + 1 by omega]; exact he2
    · have hlt : b < s.heap.objs.size := by
        rcases List.mem_cons.mp hb with z | z
        · rw [z]; exact hel
        · rw [List.mem_singleton.mp z]; exact hil
      rw [upd_ne (Nat.ne_of_lt hlt)]
      exact (hf b hb).1
  done := by
    intro X hP hw hK hc i pins s σ H E I hf ⟨⟨old, he⟩, hit⟩ ⟨xs, hq, hx⟩
    subst hP hw hK
    obtain ⟨Pd, St, D, st, _, _⟩ := Src.draws (B := X.A.in1) I (I.ok.hd hc) hq hit ni
    subst hx
    obtain ⟨f0, f1, f2, f3, f4, f5⟩ := hf it (List.mem_cons_of_mem _ List.mem_cons_self)
    exact wpAny_pyNext_enum_endD D he st fun h' eb => ⟨rfl, I.turned (t' := s.toks) (fun b o hb z => eb b o hb z) f0 f1 f3 f4 f5⟩
  self := fun A i s Q E ⟨⟨_, he⟩, _⟩ h => wpAny_pyIter_enum he h
def iEn (K : PySem.W.Frag) (ta : TA) : TI := fun σ H R => ta σ H fun us H1 => ∃ v q xs, us = [v] ∧ Src.val q v ∧ q.has K H1 xs ∧ R (ItE K q) H1
theorem pi_en {X : Cx} {e : Expr} {ta : TA} {p pos tpos : Pos} {elts : List Expr} {kk : Nat} (hg : Gl X "enumerate") (hm : X.mg "enumerate" = none) (ha : PA X [e] ta) (he : starEach [e] X.env = [(false, eval e X.env)]) :
    PI X (.Tuple elts kk tpos) (.Call (.Name "enumerate" p) [e] [] pos) (iEn X.K ta) := by
  refine ⟨fun pins s σ H R I h => Call_ (ld_blt I hg hm boot_enumerate (PyProof.Rows.callWith_type1 (thn (ha.run pos pins s σ H _ I h) fun us s1 ⟨vs, H1, I1, r1, q1⟩ => ?_) he rfl))⟩
  obtain ⟨v, q, xs, ex, hv, hq, hr⟩ := q1
  subst ex
  cases r1 with
  | cons r rr =>
    cases rr
    obtain ⟨o, Ph, B, hp, hb⟩ := Src.begins I1 hq hv r
    refine call_en B hp fun h' he hit hk => wpAny_pyIter_enum he ?_
    have lt := Src.lt I1 hq
    have I2 : Inv X pins σ H1 { s1 with heap := h' } := I1.kept (t' := s1.toks) hk
    refine ⟨s1.heap.objs.size + 1, [s1.heap.objs.size + 1, s1.heap.objs.size], _, _, H1, rfl, I2, turn_en (q := q) (e := s1.heap.objs.size + 1) (it := s1.heap.objs.size) (off_new (j := s1.heap.objs.size) lt (by omega)) (fun z => Nat.lt_irrefl _ (lt _ z)), ⟨⟨.none, he⟩, hb _ _ hit⟩, fun b hb => ?_, hr⟩
    · have le : s1.heap.objs.size ≤ b := by
        rcases List.mem_cons.mp hb with z | z
        · rw [z]; exact Nat.le_add_right _ _
        · rw [List.mem_singleton.mp z]; exact Nat.le_refl _
      exact I1.fpOk le (I1.hok.fresh le)

/-- zip: each turn a new pair -/
def ItZ (K : PySem.W.Frag) (q1 q2 : Src) : It :=
  ⟨fun i H => ∃ vs ws x y, q1.has K H vs ∧ q2.has K H ws ∧ vs[i]? = some x ∧ ws[i]? = some y,
   fun i H v H' => ∃ T x y, v = .ref T ∧ H T = none ∧ H' = upd H T (.tup [x, y]) ∧ (∀ vs, q1.has K H vs → vs[i]? = some x) ∧ ∀ ws, q2.has K H ws → ws[i]? = some y,
   fun i H => ∃ vs ws, q1.has K H vs ∧ q2.has K H ws ∧ i ≤ vs.length ∧ i ≤ ws.length ∧ (i = vs.length ∨ i = ws.length)⟩
theorem turn_zz {P : Program} {w : World} {K : PySem.W.Frag} {elts : List Expr} {kk : Nat} {tpos : Pos} {q1 q2 : Src} {z TI TO i1 i2 : Addr} (D : ZipSep2 z TI TO i1 i2 (i1 :: q1.adr) (i2 :: q2.adr)) (n1 : i1 ∉ q1.adr) (n2 : i2 ∉ q2.adr) :
    Turn P w K (.Tuple elts kk tpos) (ItZ K q1 q2) [z, TI, TO, i1, i2] z (fun i h => IsZip h z TI TO .none ∧ IsTupOf2 h TI (.ref i1) (.ref i2) ∧ (∃ x y, IsTupOf2 h TO x y) ∧ q1.itn i1 i h ∧ q2.itn i2 i h) where
  mem := List.mem_cons_self
  obj := fun i h ⟨hz, hTI, ⟨x, y, hTO⟩, h1, h2⟩ c hc => by
    have e' : c = z ∨ c = TI ∨ c = TO ∨ c = i1 ∨ c = i2 := by simpa using hc
    rcases e' with q | q | q | q | q
    · rw [q]; exact ⟨_, hz, fun v q => nomatch q⟩
    · rw [q]; exact ⟨_, hTI, fun v q => nomatch q⟩
    · rw [q]; exact ⟨_, hTO, fun v q => nomatch q⟩
    · rw [q]; exact Src.rec_at h1
    · rw [q]; exact Src.rec_at h2
  keep := fun i h h' ⟨hz, hTI, ⟨x, y, hTO⟩, h1, h2⟩ k => ⟨k z (by simp) _ hz, k TI (by simp) _ hTI, ⟨x, y, k TO (by simp) _ hTO⟩, Src.itn_at h1 fun o q => k i1 (by simp) o q, Src.itn_at h2 fun o q => k i2 (by simp) o q⟩
  item := by
    intro X hP hw hK hc i pins s σ H E I hf ⟨hz, hTI, ⟨x0, y0, hTO⟩, h1, h2⟩ ⟨xs, ys, x, y, hqx, hqy, hx, hy⟩
    subst hP hw hK
    obtain ⟨P1, S1, D1, s1, b1, r1⟩ := Src.draws (B := X.A.in1) I (I.ok.hd hc) hqx h1 n1
    obtain ⟨P2, S2, D2, s2, b2, r2⟩ := Src.draws (B := X.A.in1) I (I.ok.hd hc) hqy h2 n2
    have zl : z < s.heap.objs.size := Heap.lt_size hz
    refine wpAny_pyNext_zipD2_item D D1 D2 hz hTI hTO s1 s2 (List.getElem?_eq_some_iff.mp hx).1 (List.getElem?_eq_some_iff.mp hy).1 fun u v h' tk pu pv z' TO' s1' s2' hT hsz hk => ⟨_, rfl, ?_⟩
    obtain ⟨x', ex, ru⟩ := r1 i u pu
    rw [hx] at ex; cases ex
    obtain ⟨y', ey, rv⟩ := r2 i v pv
    rw [hy] at ey; cases ey
    refine wpAny_letOwnedTupleGo_zip (s := { s with heap := h', toks := tk }) z' fun h'' z'' sb => ?_
    have hT2 : h''.get? s.heap.objs.size = some { cls := .type "tuple", data := .seq #[u, v] } := (sb.2 _ (Nat.ne_of_gt zl)).trans hT
    have new : ObjOk X.prog X.w (upd H s.heap.objs.size (.tup [x, y])) h'' s.heap.objs.size (.tup [x, y]) :=
      ⟨by show 2 ≤ sizeLine; decide, [u, v], .cons ru (.cons rv .nil), ⟨_, hT2, rfl, _, rfl⟩⟩
    have I1 : Inv X pins σ (upd H s.heap.objs.size (.tup [x, y])) { s with heap := h'', toks := tk } :=
      I.turnedNew (ch := [z, TI, TO, i1, i2]) (fun c o hb q => (sb.2 c (fun q' => hb (by simp [q']))).trans (hk c o (fun q' => hb (by simp [q'])) (fun q' => hb (by simp [q'])) (fun q' => hb (by simp [q'])) (fun q' => hb (by simp [q'])) q)) hf (Nat.le_refl _) new
    refine ⟨.ref s.heap.objs.size, _, I1, rfl, ⟨_, x, y, rfl, I.hok.fresh (Nat.le_refl _), rfl, fun l hl => by rw [Src.inj I hl hqx]; exact hx, fun l hl => by rw [Src.inj I hl hqy]; exact hy⟩, ⟨z'', ?_, ⟨u, v, ?_⟩, ?_, ?_⟩, fun c hcm => ?_⟩
    · exact (sb.2 _ D.TIz).trans (hk _ _ D.TIz D.TITO D.TIi1 D.TIi2 hTI)
    · exact (sb.2 _ D.TOz).trans TO'
    · exact Src.itn_at (b1 _ _ s1') fun o q => (sb.2 _ D.zi1.symm).trans q
    · exact Src.itn_at (b2 _ _ s2') fun o q => (sb.2 _ D.zi2.symm).trans q
    · have hlt : c < s.heap.objs.size := by
        have e' : c = z ∨ c = TI ∨ c = TO ∨ c = i1 ∨ c = i2 := by simpa using hcm
        rcases e' with q | q | q | q | q
        · rw [q]; exact zl
        · rw [q]; exact Heap.lt_size hTI
        · rw [q]; exact Heap.lt_size hTO
        · rw [q]; obtain ⟨_, e1, _⟩ := Src.rec_at h1; exact Heap.lt_size e1
        · rw [q]; obtain ⟨_, e1, _⟩ := Src.rec_at h2; exact Heap.lt_size e1
      rw [upd_ne (Nat.ne_of_lt hlt)]
      exact (hf c hcm).1
  done := by
    intro X hP hw hK hc i pins s σ H E I hf ⟨hz, hTI, ⟨x0, y0, hTO⟩, h1, h2⟩ ⟨xs, ys, hqx, hqy, l1, l2, hend⟩
    subst hP hw hK
    obtain ⟨P1, S1, D1, s1, b1, r1⟩ := Src.draws (B := X.A.in1) I (I.ok.hd hc) hqx h1 n1
    obtain ⟨P2, S2, D2, s2, b2, r2⟩ := Src.draws (B := X.A.in1) I (I.ok.hd hc) hqy h2 n2
    exact wpAny_pyNext_zipD2_end D D1 D2 hz hTI hTO s1 s2 l1 l2 hend fun h' tk hk => ⟨rfl, I.turnedL (t' := tk) (ch := [z, TI, TO, i1, i2]) (fun c o hb q =>
      hk c o (fun q' => hb (by simp [q'])) (fun q' => hb (by simp [q'])) (fun q' => hb (by simp [q'])) (fun q' => hb (by simp [q'])) q) hf⟩
  self := fun A i s Q E st h => wpAny_pyIter_zip st.1 h
/-- the cells of a zip just made lie apart -/
theorem zipSep {n : Nat} {l1 l2 : List Addr} (h1 : ∀ a ∈ l1, a < n) (h2 : ∀ a ∈ l2, a < n) : ZipSep2 (n + 4) (n + 2) (n + 3) n (n + 1) (n :: l1) ((n + 1) :: l2) where
  TIz := show n + 2 ≠ n + 4 by omega
  TOz := show n + 3 ≠ n + 4 by omega
  TITO := show n + 2 ≠ n + 3 by omega
  TIi1 := show n + 2 ≠ n by omega
  mem1 := List.mem_cons_self
  zf1 := off_new (j := n) h1 (by omega)
  Tf1 := off_new (j := n) h1 (by omega)
  TIi2 := show n + 2 ≠ n + 1 by omega
  mem2 := List.mem_cons_self
  zf2 := off_new (j := n + 1) h2 (by omega)
  Tf2 := off_new (j := n + 1) h2 (by omega)
  sep1_2 := off_new (k := 0) (j := n + 1) h2 (by omega)
  sep2_1 := off_new (j := n) h1 (by omega)
def iZz (K : PySem.W.Frag) (ta : TA) : TI := fun σ H R => ta σ H fun us H1 => ∃ v w q1 q2 xs ys, us = [v, w] ∧ Src.val q1 v ∧ Src.val q2 w ∧ q1.has K H1 xs ∧ q2.has K H1 ys ∧ R (ItZ K q1 q2) H1
theorem zip_made {X : Cx} {pins : List (Addr × Obj)} {σ : L2.St} {H : Hp} {s : Shared} {v w : V} {u1 u2 : Value} {q1 q2 : Src} {xs ys : List V} {E : Value → Shared → Prop} {Q : Value → Shared → Prop} (I : Inv X pins σ H s) (r1 : RelV v u1) (r2 : RelV w u2) (hv : q1.val v) (hw : q2.val w) (h1 : q1.has X.K H xs) (h2 : q2.has X.K H ys)
    (h : ∀ h' z TI TO i1 i2, ZipSep2 z TI TO i1 i2 (i1 :: q1.adr) (i2 :: q2.adr) → i1 ∉ q1.adr → i2 ∉ q2.adr → IsZip h' z TI TO .none → IsTupOf2 h' TI (.ref i1) (.ref i2) → IsTupOf2 h' TO .none .none → q1.itn i1 0 h' → q2.itn i2 0 h' → Inv X pins σ H { s with heap := h' } → (∀ c ∈ [z, TI, TO, i1, i2], FpOk X pins H c) → Q (.ref z) { s with heap := h' }) :
    wpAny (model X.prog X.w) X.A (call (.type "zip") [u1, u2]) Q E s := by
  obtain ⟨o1, p1, B1, hp1, hb1⟩ := Src.begins I h1 hv r1
  obtain ⟨o2, p2, B2, hp2, hb2⟩ := Src.begins I h2 hw r2
  have l1 := Src.lt I h1
  have l2 := Src.lt I h2
  refine zip_begins2 B1 B2 hp1 hp2 fun h' hz hTI hTO g1 g2 hsz hk => ?_
  refine h h' _ _ _ _ _ (zipSep l1 l2) (fun z => Nat.lt_irrefl _ (l1 _ z)) (fun z => absurd (l2 _ z) (Nat.not_lt.mpr (Nat.le_add_right _ _))) hz hTI hTO (hb1 _ _ g1) (hb2 _ _ g2) (I.kept (t' := s.toks) hk) fun c hc => ?_
  have le : s.heap.objs.size ≤ c := by
    have e' : c = s.heap.objs.size + 4 ∨ c = s.heap.objs.size + 2 ∨ c = s.heap.objs.size + 3 ∨ c = s.heap.objs.size ∨ c = s.heap.objs.size + 1 := by simpa using hc
    rcases e' with z | z | z | z | z <;> rw [z] <;> first | exact Nat.le_add_right _ _ | exact Nat.le_refl _
  exact I.fpOk le (I.hok.fresh le)
theorem pi_zz {X : Cx} {e e2 : Expr} {ta : TA} {p pos tpos : Pos} {elts : List Expr} {kk : Nat} (hg : Gl X "zip") (hm : X.mg "zip" = none) (ha : PA X [e, e2] ta)
    (hs : starEach [e, e2] X.env = (false, eval e X.env) :: starEach [e2] X.env) (hpl : (backTo pos (starEach [e2] X.env)).any (·.1) = false) :
    PI X (.Tuple elts kk tpos) (.Call (.Name "zip" p) [e, e2] [] pos) (iZz X.K ta) := by
  refine ⟨fun pins s σ H R I h => Call_ (ld_blt I hg hm boot_zip (PyProof.Rows.callWith_type1 (thn (ha.run pos pins s σ H _ I h) fun us s1 ⟨vs, H1, I1, r1, q1⟩ => ?_) hs hpl))⟩
  obtain ⟨v, w, p1, p2, xs, ys, ex, hv, hw, h1, h2, hr⟩ := q1
  subst ex
  cases r1 with
  | cons r rr =>
    cases rr with
    | cons r' rr =>
      cases rr
      exact zip_made I1 r r' hv hw h1 h2 fun h' z TI TO i1 i2 D n1 n2 hz hTI hTO g1 g2 I2 fp => wpAny_pyIter_zip hz ⟨z, _, _, _, H1, rfl, I2, turn_zz D n1 n2, ⟨hz, hTI, ⟨_, _, hTO⟩, g1, g2⟩, fp, hr⟩
end LB

namespace LB
open PySem L2 PyProof.Rows

/-! ### where an item goes: names, tuples of names -/
mutual
inductive Tg where
  | nm (i : Nat) | tp (ts : Tgs)
inductive Tgs where
  | nil | cons (t : Tg) (ts : Tgs)
end
mutual
def Tg.slots : Tg → List Nat
  | .nm i => [i]
  | .tp ts => ts.slots
def Tgs.slots : Tgs → List Nat
  | .nil => []
  | .cons t ts => t.slots ++ ts.slots
end
def tupOf : D → Option (List D)
  | .tup ds => some ds
  | .ktp ds => some ds
  | _ => none
mutual
def bindT : Tg → D → List Sl → Option (List Sl)
  | .nm i, d, ρ => some (ρ.set i (.va d))
  | .tp ts, d, ρ => match tupOf d with
    | some ds => bindTs ts ds ρ
    | none => none
def bindTs : Tgs → List D → List Sl → Option (List Sl)
  | .nil, [], ρ => some ρ
  | .cons t ts, d :: ds, ρ => match bindT t d ρ with
    | some ρ' => bindTs ts ds ρ'
    | none => none
  | _, _, _ => none
end
section
variable {Z : Stc} {Fo : Hp} {W : WX} {g g' : Gh} {m m' : Mst} {σ : L2.St} {H : Hp} {N N' : Nat} {X : Cx}
theorem Good.setv {i : Nat} {v : V} {d : D} (G : Good Z Fo g m σ H) (r : DV Z g.G g.μ m.S.length d v) : Good Z Fo g { m with ρ := m.ρ.set i (.va d) } (σ.set i (some v)) H := by
  refine ⟨G.s, by simp [G.len], fun j s e => ?_⟩
  by_cases z : i = j
  · subst z
    have e : (m.ρ.set i (.va d))[i]? = some s := e
    have lt : i < m.ρ.length := by
      have q := (List.getElem?_eq_some_iff.mp e).1
      simpa using q
    rw [List.getElem?_set_self lt] at e
    cases e
    exact ⟨v, List.getElem?_set_self (by rw [← G.len]; exact lt), r⟩
  · have e : (m.ρ.set i (.va d))[j]? = some s := e
    rw [List.getElem?_set_ne z] at e
    have x := G.sl j s e
    cases s with
    | un => trivial
    | va d' => obtain ⟨v', q1, q2⟩ := x; exact ⟨v', by rw [List.getElem?_set_ne z]; exact q1, q2⟩
    | own o => obtain ⟨a, h, q1, q2, q3, q4⟩ := x; exact ⟨a, h, by rw [List.getElem?_set_ne z]; exact q1, q2, q3, q4⟩
def gT (Z : Stc) (Fo : Hp) (t : Tg) : TG := fun v σ H Q => ∃ g m d ρ', Good Z Fo g m σ H ∧ DV Z g.G g.μ m.S.length d v ∧ bindT t d m.ρ = some ρ' ∧ ∀ σ', Good Z Fo g { m with ρ := ρ' } σ' H → (∀ j, j ∉ t.slots → σ'[j]? = σ[j]?) → σ'.length = σ.length → Q σ' H
def gTs (Z : Stc) (Fo : Hp) (t : Tgs) : TGs := fun vs σ H Q => ∃ g m ds ρ', Good Z Fo g m σ H ∧ DVs Z g.G g.μ m.S.length ds vs ∧ bindTs t ds m.ρ = some ρ' ∧ ∀ σ', Good Z Fo g { m with ρ := ρ' } σ' H → (∀ j, j ∉ t.slots → σ'[j]? = σ[j]?) → σ'.length = σ.length → Q σ' H
theorem pg_imp {tg : Expr} {t t' : TG} (h : PG X tg t) (q : ∀ v σ H Q, t' v σ H Q → t v σ H Q) : PG X tg t' := ⟨fun pins s σ H v u Q I r k => h.run pins s σ H v u Q I r (q _ _ _ _ k)⟩
theorem pgs_imp {tg : List Expr} {t t' : TGs} (h : PGs X tg t) (q : ∀ v σ H Q, t' v σ H Q → t v σ H Q) : PGs X tg t' := ⟨fun pins s σ H v u Q I r k => h.run pins s σ H v u Q I r (q _ _ _ _ k)⟩
theorem dg_nm {tg : Expr} {i : Nat} (h : PG X tg (gName i)) : PG X tg (gT Z Fo (.nm i)) := pg_imp h fun v σ H Q ⟨g, m, d, ρ', G, r, e, q⟩ => by
  cases e
  exact q _ (G.setv r) (fun j hj => List.getElem?_set_ne (fun z => hj (by rw [z]; exact List.mem_singleton.mpr rfl))) (by simp)
theorem dgs_nil : PGs X [] (gTs Z Fo .nil) := pgs_imp pgs_nil fun v σ H Q ⟨g, m, d, ρ', G, r, e, q⟩ => by
  cases d with
  | cons _ _ => simp [bindTs] at e
  | nil =>
    cases r
    simp only [bindTs, Option.some.injEq] at e
    subst e
    exact ⟨rfl, q σ G (fun _ _ => rfl) rfl⟩
theorem dgs_cons {e : Expr} {es : List Expr} {t : Tg} {ts : Tgs} (h1 : PG X e (gT Z Fo t)) (h2 : PGs X es (gTs Z Fo ts)) (hs : (assignEach (e :: es) X.env).map (·.2) = assign e X.env :: (assignEach es X.env).map (·.2)) : PGs X (e :: es) (gTs Z Fo (.cons t ts)) :=
  pgs_imp (pgs_cons h1 h2 hs) fun v σ H Q ⟨g, m, d, ρ', G, r, e, q⟩ => by
    cases d with
    | nil => simp [bindTs] at e
    | cons d ds =>
      cases r with
      | @cons _ v _ vs r1 r2 =>
        simp only [bindTs] at e
        cases e1 : bindT t d m.ρ with
        | none => rw [e1] at e; cases e
        | some ρ1 =>
          rw [e1] at e
          refine ⟨v, vs, rfl, g, m, d, ρ1, G, r1, e1, fun σ1 G1 k1 l1 => ⟨g, _, ds, ρ', G1, r2, e, fun σ2 G2 k2 l2 => q σ2 G2 (fun j hj => ?_) (l2.trans l1)⟩⟩
          have hj' : j ∉ t.slots ++ ts.slots := hj
          rw [List.mem_append, not_or] at hj'
          exact (k2 j hj'.2).trans (k1 j hj'.1)
theorem bindTs_len : ∀ {ts : Tgs} {ds : List D} {ρ ρ' : List Sl}, bindTs ts ds ρ = some ρ' → ∀ {n : Nat}, (Tgs.rec (motive_1 := fun _ => Unit) (motive_2 := fun _ => Nat) (fun _ => ()) (fun _ _ => ()) 0 (fun _ _ _ n => n + 1) ts : Nat) = n → ds.length = n
  | .nil, [], _, _, _, _, e => e
  | .cons t ts, d :: ds, ρ, ρ', h, n, e => by
    simp only [bindTs] at h
    cases e1 : bindT t d ρ with
    | none => rw [e1] at h; cases h
    | some ρ1 =>
      rw [e1] at h
      subst e
      rw [List.length_cons, bindTs_len h rfl]
  | .nil, _ :: _, _, _, h, _, _ => by simp [bindTs] at h
  | .cons _ _, [], _, _, h, _, _ => by simp [bindTs] at h
def Tgs.len : Tgs → Nat
  | .nil => 0
  | .cons _ ts => ts.len + 1
theorem bindTs_len' : ∀ {ts : Tgs} {ds : List D} {ρ ρ' : List Sl}, bindTs ts ds ρ = some ρ' → ds.length = ts.len
  | .nil, [], _, _, _ => rfl
  | .cons t ts, d :: ds, ρ, ρ', h => by
    simp only [bindTs] at h
    cases e1 : bindT t d ρ with
    | none => rw [e1] at h; cases h
    | some ρ1 =>
      rw [e1] at h
      rw [List.length_cons, bindTs_len' h]
      rfl
  | .nil, _ :: _, _, _, h => by simp [bindTs] at h
  | .cons _ _, [], _, _, h => by simp [bindTs] at h
theorem tup_at {d : D} {ds : List D} {v : V} (h : tupOf d = some ds) (G : Good Z Fo g m σ H) (r : DV Z g.G g.μ m.S.length d v) : ∃ a vs, v = .ref a ∧ SqT Z.K H a vs ∧ DVs Z g.G g.μ m.S.length ds vs := by
  cases d with
  | tup ds' => cases h; obtain ⟨a, vs, e, q, _, r'⟩ := PV.tup G (.inl r); exact ⟨a, vs, e, q, r'⟩
  | ktp ds' => cases h; obtain ⟨a, vs, e, q, r'⟩ := PV.ktp G (.inl r); exact ⟨a, vs, e, q, r'⟩
  | _ => cases h
theorem dg_tp {es : List Expr} {k n : Nat} {pos : Pos} {ts : Tgs} (hK : X.K = Z.K) (hc : X.calm = true) (h : PGs X es (gTs Z Fo ts)) (hl : ts.len = n) (hn : (assignEach es X.env).length = n) (hst : (assignEach es X.env).findIdx? (·.1) = none) : PG X (.Tuple es k pos) (gT Z Fo (.tp ts)) :=
  pg_imp (pg_tup hc h hn hst) fun v σ H Q ⟨g, m, d, ρ', G, r, e, q⟩ => by
    simp only [bindT] at e
    cases e1 : tupOf d with
    | none => rw [e1] at e; cases e
    | some ds =>
      rw [e1] at e
      obtain ⟨a, vs, rfl, sq, rs⟩ := tup_at e1 G r
      exact ⟨a, vs, rfl, hK ▸ sq, by rw [← rs.length, bindTs_len' e, hl], g, m, ds, ρ', G, rs, e, q⟩

/-! ### what is handed out -/
structure Hands (Z : Stc) (g : Gh) (N : Nat) (ds : List D) (J : It) : Prop where
  go : ∀ Fo i g' m' σ' H' d, Good Z Fo g' m' σ' H' → Mor g.G g'.G g.μ g'.μ N m'.S.length → ds[i]? = some d → J.go i H' ∧ ∀ x H2, J.yld i H' x H2 → ∃ g2, Good Z Fo g2 m' σ' H2 ∧ Ext Fo g' m'.S.length g2 m'.S.length ∧ DV Z g2.G g2.μ m'.S.length d x
  stop : ∀ Fo g' m' σ' H', Good Z Fo g' m' σ' H' → Mor g.G g'.G g.μ g'.μ N m'.S.length → J.stop ds.length H'
abbrev RI (Z : Stc) : Gh → Nat → Hp → List D → It → Prop := fun g N _ ds J => Hands Z g N ds J
def tI (Z : Stc) (Fo : Hp) (W : WX) (f : Mo (List D)) : TI := fun σ H R => ∃ g m, Good Z Fo g m σ H ∧ Pg Z Fo W (RI Z) g m.S.length σ R (f m)
theorem pi_imp {tg e : Expr} {t t' : TI} (h : PI X tg e t) (q : ∀ σ H R, t' σ H R → t σ H R) : PI X tg e t' := ⟨fun pins s σ H R I k => h.run pins s σ H R I (q _ _ _ k)⟩
theorem hands_tup {d : D} {ds : List D} {vs : List V} {a : Addr} (r : DV Z g.G g.μ N d (.ref a)) (h : tupOf d = some ds) : Hands Z g N ds (Itt Z.K a) := by
  constructor
  · intro Fo i g' m' σ' H' x G M e
    obtain ⟨b, ws, eb, q, rs⟩ := tup_at h G (r.mor M)
    cases eb
    obtain ⟨y, ey, ry⟩ := rs.get e
    exact ⟨⟨ws, y, q, ey⟩, fun z H2 ⟨e1, e2⟩ => by
      subst e1
      have e3 := e2 ws q
      rw [ey] at e3
      cases e3
      exact ⟨g', G, .rfl', ry⟩⟩
  · intro Fo g' m' σ' H' G M
    obtain ⟨b, ws, eb, q, rs⟩ := tup_at h G (r.mor M)
    cases eb
    exact ⟨ws, q, by rw [rs.length]; exact Nat.le_refl _⟩
theorem hands_lst {ds : List D} {a : Addr} (r : DV Z g.G g.μ N (.lst ds) (.ref a)) : Hands Z g N ds (Itl Z.K a) := by
  have at' : ∀ {Fo : Hp} {g' : Gh} {m' : Mst} {σ' : L2.St} {H' : Hp}, Good Z Fo g' m' σ' H' → Mor g.G g'.G g.μ g'.μ N m'.S.length → ∃ ws, SqL Z.K H' a ws ∧ DVs Z g'.G g'.μ m'.S.length ds ws := fun G M => by
    obtain ⟨b, ws, eb, q, rs⟩ := PV.lst G (.inl (r.mor M))
    cases eb
    exact ⟨ws, .inl q, rs⟩
  constructor
  · intro Fo i g' m' σ' H' x G M e
    obtain ⟨ws, q, rs⟩ := at' G M
    obtain ⟨y, ey, ry⟩ := rs.get e
    exact ⟨⟨ws, y, q, ey⟩, fun z H2 ⟨e1, e2⟩ => by
      subst e1
      have e3 := e2 ws q
      rw [ey] at e3
      cases e3
      exact ⟨g', G, .rfl', ry⟩⟩
  · intro Fo g' m' σ' H' G M
    obtain ⟨ws, q, rs⟩ := at' G M
    exact ⟨ws, q, by rw [rs.length]; exact Nat.le_refl _⟩
theorem signs_at {x : Str} {i : Nat} {d : D} (h : (signs x)[i]? = some d) : ∃ c, x.cps[i]? = some c ∧ d = .str ⟨#[c]⟩ := by
  unfold signs at h
  rw [List.getElem?_map, Array.getElem?_toList] at h
  cases e : x.cps[i]? with
  | none => rw [e] at h; cases h
  | some c => rw [e] at h; cases h; exact ⟨c, rfl, rfl⟩
theorem signs_len (x : Str) : (signs x).length = x.cps.size := by simp [signs]
theorem hands_str {x : Str} : Hands Z g N (signs x) (Its x) := by
  constructor
  · intro Fo i g' m' σ' H' d G M e
    obtain ⟨c, ec, rfl⟩ := signs_at e
    exact ⟨(Array.getElem?_eq_some_iff.mp ec).1, fun z H2 ⟨e1, c', e2, e3⟩ => by
      subst e1 e3
      rw [ec] at e2
      cases e2
      exact ⟨g', G, .rfl', .str _⟩⟩
  · intro Fo g' m' σ' H' G M
    rw [signs_len]
    exact Nat.le_refl _
/-- over a list, a tuple, a text -/
def seqM (f : Mo D) : Mo (List D) := f.bind fun d => .opt (itemsD d)
theorem di_seq {tg e : Expr} {f : Mo D} (hK : X.K = Z.K) (h : PE X e (tE Z Fo W f)) : PI X tg e (tI Z Fo W (seqM f)) := by
  have hl := pi_list (tg := tg) h
  have ht := pi_tup (tg := tg) h
  have hs := pi_str (tg := tg) h
  refine ⟨fun pins s σ H R I ⟨g, m, G, k⟩ => ?_⟩
  change Pg Z Fo W (RI Z) g m.S.length σ R ((f m).bind _) at k
  cases e : f m with
  | no => rw [e] at k; exact k.elim
  | exc x m' =>
    rw [e] at k
    refine hl.run pins s σ H R I ⟨g, m, G, ?_⟩
    rw [e]
    exact k
  | ok d m' =>
    rw [e] at k
    simp only [Res.bind_ok] at k
    cases e2 : itemsD d with
    | none => rw [e2] at k; exact k.elim
    | some ds =>
      rw [e2] at k
      have k' : Pg Z Fo W (RI Z) g m.S.length σ R (.ok ds m') := k
      have tup : tupOf d = some ds → wpAny (model X.prog X.w) X.A (eval _ X.env) (fun v s1 => wpAny (model X.prog X.w) X.A (pyIter v) (PIE X pins σ tg R) X.xe s1) X.xe s := fun t => by
        refine ht.run pins s σ H R I ⟨g, m, G, ?_⟩
        rw [e]
        intro v H' g' G' E r
        obtain ⟨a, vs, rfl, q, rs⟩ := tup_at t G' r
        exact ⟨a, rfl, ⟨vs, hK ▸ q⟩, k' _ _ g' G' E (hK ▸ hands_tup (vs := vs) r t)⟩
      cases d with
      | tup ds' => cases e2; exact tup rfl
      | ktp ds' => cases e2; exact tup rfl
      | lst ds' =>
        cases e2
        refine hl.run pins s σ H R I ⟨g, m, G, ?_⟩
        rw [e]
        intro v H' g' G' E r
        obtain ⟨a, vs, rfl, q, rs⟩ := PV.lst G' (.inl r)
        exact ⟨a, rfl, ⟨vs, .inl q⟩, k' _ _ g' G' E (hK ▸ hands_lst r)⟩
      | str x =>
        cases e2
        refine hs.run pins s σ H R I ⟨g, m, G, ?_⟩
        rw [e]
        intro v H' g' G' E r
        cases r
        exact ⟨x, rfl, k' _ _ g' G' E hands_str⟩
      | _ => cases e2
/-! ### range -/
def upTo (lo c : Int) (n : Nat) : List D := (List.range n).map fun (i : Nat) => .int (lo + (i : Int) * c)
theorem upTo_len (lo c : Int) (n : Nat) : (upTo lo c n).length = n := by simp [upTo]
theorem upTo_at {lo c : Int} {n i : Nat} {d : D} (h : (upTo lo c n)[i]? = some d) : i < n ∧ d = .int (lo + (i : Int) * c) := by
  have lt : i < n := by simpa [upTo] using (List.getElem?_eq_some_iff.mp h).1
  refine ⟨lt, ?_⟩
  unfold upTo at h
  rw [List.getElem?_map, List.getElem?_range lt] at h
  cases h
  rfl
def small62 (i : Int) : Bool := decide (-(2 ^ 62) ≤ i) && decide (i < 2 ^ 62)
theorem small62_spec {i : Int} (h : small62 i = true) : -(2 ^ 62) ≤ i ∧ i < 2 ^ 62 := by simpa [small62] using h
/-- 1: a range(j); 2: range(i, j); 3: range(i, j, -1) -/
def rngD : List D → Option (List D)
  | [.int j] => if small62 j then some (upTo 0 1 j.toNat) else none
  | [.int i, .int j] => if small62 i && small62 j then some (upTo i 1 (j - i).toNat) else none
  | [.int i, .int j, .int c] => if small62 i && small62 j && decide (c = -1) then some (upTo i (-1) (i - j).toNat) else if small62 i && small62 j && decide (0 < c ∧ c < 2 ^ 30) && Builtin.Range.small i j c then some (upTo i c (Builtin.Range.rangeSize i j c).toNat) else none
  | _ => none
theorem hands_rng {lo : Int} {n : Nat} : Hands Z g N (upTo lo 1 n) (Itr lo n) := by
  constructor
  · intro Fo i g' m' σ' H' d G M e
    obtain ⟨lt, rfl⟩ := upTo_at e
    exact ⟨lt, fun z H2 ⟨e1, e2⟩ => by subst e1 e2; exact ⟨g', G, .rfl', by rw [Int.mul_one]; exact .int _⟩⟩
  · intro Fo g' m' σ' H' G M
    rw [upTo_len]
    exact Nat.le_refl _
theorem hands_rngC {lo c : Int} {n : Nat} : Hands Z g N (upTo lo c n) (Itc lo c n) := by
  constructor
  · intro Fo i g' m' σ' H' d G M e
    obtain ⟨lt, rfl⟩ := upTo_at e
    exact ⟨lt, fun z H2 ⟨e1, e2⟩ => by subst e1 e2; exact ⟨g', G, .rfl', .int _⟩⟩
  · intro Fo g' m' σ' H' G M
    rw [upTo_len]
    exact Nat.le_refl _
def rngM (f : Mo (List D)) : Mo (List D) := f.bind fun ds => .opt (rngD ds)
section
variable {tg a b c : Expr} {f : Mo (List D)} {p pos : Pos}
theorem rng_go {σ : L2.St} {H : Hp} {R : It → Hp → Prop} {t : List V → Hp → Prop} (n : Nat) (h : tI Z Fo W (rngM f) σ H R) (hl : ∀ m ds m', f m = .ok ds m' → ds.length = n)
    (k : ∀ vs ds H' g' m' out, Good Z Fo g' m' σ H' → DVs Z g'.G g'.μ m'.S.length ds vs → ds.length = n → rngD ds = some out → (∀ J, (∀ g N, Hands Z g N out J) → R J H') → t vs H') : tL Z Fo W f σ H t := by
  obtain ⟨g, m, G, h⟩ := h
  refine ⟨g, m, G, (Pg.bind (R := RDs Z) h).imp fun vs H' ⟨ds, g', m', G', E, r, e, q⟩ => ?_⟩
  cases e1 : rngD ds with
  | none => simp only [e1] at q; exact q.elim
  | some out =>
    simp only [e1] at q
    exact k vs ds H' g' m' out G' r (hl _ _ _ e) e1 fun J hJ => q J H' g' G' .rfl' (hJ _ _)
theorem di_rng1 (hg : Gl X "range") (hm : X.mg "range" = none) (hs : starEach [a] X.env = [(false, eval a X.env)]) (h : PA X [a] (tL Z Fo W f)) (hl : ∀ m ds m', f m = .ok ds m' → ds.length = 1) : PI X tg (.Call (.Name "range" p) [a] [] pos) (tI Z Fo W (rngM f)) :=
  pi_imp (pi_range1 hg hm h hs) fun σ H R k => rng_go 1 k hl fun vs ds H' g' m' out G' r el e q => by
    match ds, el, r, e with
    | [.int j], _, .cons (.int _) .nil, e =>
      simp only [rngD] at e
      split at e
      · rename_i hj
        obtain ⟨h1, h2⟩ := small62_spec hj
        cases e
        exact ⟨j, rfl, h1, h2, q _ fun _ _ => hands_rng⟩
      · cases e
theorem di_rng2 (hg : Gl X "range") (hm : X.mg "range" = none) (hs : starEach [a, b] X.env = [(false, eval a X.env), (false, eval b X.env)]) (hs2 : starEach [b] X.env = [(false, eval b X.env)]) (h : PA X [a, b] (tL Z Fo W f)) (hl : ∀ m ds m', f m = .ok ds m' → ds.length = 2) : PI X tg (.Call (.Name "range" p) [a, b] [] pos) (tI Z Fo W (rngM f)) :=
  pi_imp (pi_range2 hg hm h hs hs2) fun σ H R k => rng_go 2 k hl fun vs ds H' g' m' out G' r el e q => by
    match ds, el, r, e with
    | [.int i, .int j], _, .cons (.int _) (.cons (.int _) .nil), e =>
      simp only [rngD] at e
      split at e
      · rename_i hj
        rw [Bool.and_eq_true] at hj
        obtain ⟨h1, h2⟩ := small62_spec hj.1
        obtain ⟨h3, h4⟩ := small62_spec hj.2
        cases e
        exact ⟨i, j, rfl, ⟨h1, h2, h3, h4⟩, q _ fun _ _ => hands_rng⟩
      · cases e
theorem di_rng3 (hg : Gl X "range") (hm : X.mg "range" = none) (hs : starEach [a, b, c] X.env = (false, eval a X.env) :: starEach [b, c] X.env) (hpl : (backTo pos (starEach [b, c] X.env)).any (·.1) = false) (h : PA X [a, b, c] (tL Z Fo W f)) (hl : ∀ m ds m', f m = .ok ds m' → ds.length = 3) : PI X tg (.Call (.Name "range" p) [a, b, c] [] pos) (tI Z Fo W (rngM f)) :=
  pi_imp (pi_range3 hg hm h hs hpl) fun σ H R k => rng_go 3 k hl fun vs ds H' g' m' out G' r el e q => by
    match ds, el, r, e with
    | [.int i, .int j, .int c], _, .cons (.int _) (.cons (.int _) (.cons (.int _) .nil)), e =>
      simp only [rngD] at e
      split at e
      · rename_i hj
        simp only [Bool.and_eq_true, decide_eq_true_eq] at hj
        obtain ⟨⟨j1, j2⟩, rfl⟩ := hj
        obtain ⟨h1, h2⟩ := small62_spec j1
        obtain ⟨h3, h4⟩ := small62_spec j2
        cases e
        exact ⟨i, j, -1, _, rfl, RgC.neg h1 h2 h3 h4, q _ fun _ _ => hands_rngC⟩
      · split at e
        · rename_i hj
          simp only [Bool.and_eq_true, decide_eq_true_eq] at hj
          obtain ⟨⟨⟨j1, j2⟩, j3, j4⟩, j5⟩ := hj
          cases e
          refine ⟨i, j, c, _, rfl, ⟨by omega, by omega, j5, ?_⟩, q _ fun _ _ => hands_rngC⟩
          refine (Int.toNat_of_nonneg ?_).symm
          unfold Builtin.Range.rangeSize
          split <;> (try split) <;> first | omega | skip
          all_goals exact Int.add_nonneg (Int.ediv_nonneg (by omega) (by omega)) (by omega)
        · cases e
end
end
end LB

namespace LB
open PySem L2 PyProof.Rows
section
variable {Z : Stc} {Fo : Hp} {W : WX} {g g' : Gh} {m m' : Mst} {σ : L2.St} {H : Hp} {N N' : Nat} {X : Cx}

/-! ### enumerate, zip -/
def enumF (k : Nat) : List D → List D
  | [] => []
  | d :: r => .tup [.int (k : Nat), d] :: enumF (k + 1) r
def zipF : List D → List D → List D
  | a :: r, b :: s => .tup [a, b] :: zipF r s
  | _, _ => []
theorem enumF_len : ∀ (k : Nat) (ds : List D), (enumF k ds).length = ds.length
  | _, [] => rfl
  | k, _ :: r => by rw [enumF, List.length_cons, List.length_cons, enumF_len]
theorem enumF_at : ∀ {k : Nat} {ds : List D} {i : Nat} {d : D}, (enumF k ds)[i]? = some d → ∃ x, ds[i]? = some x ∧ d = .tup [.int ((k + i : Nat) : Int), x]
  | _, [], _, _, h => by simp [enumF] at h
  | k, a :: r, 0, _, h => by simp [enumF] at h; exact ⟨a, rfl, by rw [← h]; rfl⟩
  | k, a :: r, i + 1, d, h => by
    have h' : (enumF (k + 1) r)[i]? = some d := by simpa [enumF] using h
    obtain ⟨x, e, q⟩ := enumF_at h'
    exact ⟨x, by simpa using e, by rw [q]; congr 4; omega⟩
theorem zipF_len : ∀ (a b : List D), (zipF a b).length = min a.length b.length
  | [], _ => by simp [zipF]
  | _ :: _, [] => by simp [zipF]
  | _ :: r, _ :: s => by rw [zipF, List.length_cons, List.length_cons, List.length_cons, zipF_len]; omega
theorem zipF_at : ∀ {a b : List D} {i : Nat} {d : D}, (zipF a b)[i]? = some d → ∃ x y, a[i]? = some x ∧ b[i]? = some y ∧ d = .tup [x, y]
  | [], _, _, _, h => by simp [zipF] at h
  | _ :: _, [], _, _, h => by simp [zipF] at h
  | x :: r, y :: s, 0, _, h => by simp [zipF] at h; exact ⟨x, y, rfl, rfl, h.symm⟩
  | _ :: r, _ :: s, i + 1, d, h => by
    have h' : (zipF r s)[i]? = some d := by simpa [zipF] using h
    obtain ⟨x, y, e1, e2, q⟩ := zipF_at h'
    exact ⟨x, y, by simpa using e1, by simpa using e2, q⟩
/-- a datum whose items can be gone through -/
theorem src_at {d : D} {ds : List D} {v : V} (h : itemsD d = some ds) (r : DV Z g.G g.μ N d v) : ∃ q : Src, q.val v ∧ ∀ {Fo : Hp} {g' : Gh} {m' : Mst} {σ' : L2.St} {H' : Hp}, Good Z Fo g' m' σ' H' → Mor g.G g'.G g.μ g'.μ N m'.S.length → ∃ vs, q.has Z.K H' vs ∧ DVs Z g'.G g'.μ m'.S.length ds vs := by
  have tup : ∀ ds', tupOf d = some ds' → ∃ a, v = .ref a ∧ ∀ {Fo : Hp} {g' : Gh} {m' : Mst} {σ' : L2.St} {H' : Hp}, Good Z Fo g' m' σ' H' → Mor g.G g'.G g.μ g'.μ N m'.S.length → ∃ vs, SqT Z.K H' a vs ∧ DVs Z g'.G g'.μ m'.S.length ds' vs := fun ds' t => by
    have ev : ∃ a, v = .ref a := by
      cases d with
      | tup _ => cases r; exact ⟨_, rfl⟩
      | ktp _ => cases r; exact ⟨_, rfl⟩
      | _ => cases t
    obtain ⟨a, rfl⟩ := ev
    refine ⟨a, rfl, fun G M => ?_⟩
    obtain ⟨b, vs, eb, q, rs⟩ := tup_at t G (r.mor M)
    cases eb
    exact ⟨vs, q, rs⟩
  cases d with
  | tup ds' => cases h; obtain ⟨a, rfl, k⟩ := tup _ rfl; exact ⟨.t a, rfl, fun G M => k G M⟩
  | ktp ds' => cases h; obtain ⟨a, rfl, k⟩ := tup _ rfl; exact ⟨.t a, rfl, fun G M => k G M⟩
  | lst ds' =>
    cases h
    have ev : ∃ a, v = .ref a := by cases r; exact ⟨_, rfl⟩
    obtain ⟨a, rfl⟩ := ev
    refine ⟨.l a, rfl, fun G M => ?_⟩
    obtain ⟨b, vs, eb, q, rs⟩ := PV.lst G (.inl (r.mor M))
    cases eb
    exact ⟨vs, .inl q, rs⟩
  | str x =>
    cases h
    cases r
    refine ⟨.s x, rfl, fun G M => ⟨signsV x, rfl, ?_⟩⟩
    unfold signs signsV
    generalize x.cps.toList = l
    induction l with
    | nil => exact .nil
    | cons a r ih => exact .cons (.str _) ih
  | _ => cases h
theorem dv_pair {T : Addr} {x y : V} {a b : D} (e : g.G T = some (.tup [x, y])) (ra : DV Z g.G g.μ N a x) (rb : DV Z g.G g.μ N b y) : DV Z g.G g.μ N (.tup [a, b]) (.ref T) := .tup e (.cons ra (.cons rb .nil))
theorem hands_en {q : Src} {ds : List D} (h : ∀ {Fo : Hp} {g' : Gh} {m' : Mst} {σ' : L2.St} {H' : Hp}, Good Z Fo g' m' σ' H' → Mor g.G g'.G g.μ g'.μ N m'.S.length → ∃ vs, q.has Z.K H' vs ∧ DVs Z g'.G g'.μ m'.S.length ds vs) : Hands Z g N (enumF 0 ds) (ItE Z.K q) := by
  constructor
  · intro Fo i g' m' σ' H' d G M e
    obtain ⟨vs, q1, rs⟩ := h G M
    obtain ⟨x, ex, rfl⟩ := enumF_at e
    obtain ⟨y, ey, ry⟩ := rs.get ex
    refine ⟨⟨vs, y, q1, ey⟩, fun z H2 ⟨T, y', e1, n, e2, e3⟩ => ?_⟩
    subst e1 e2
    have e4 := e3 vs q1
    rw [ey] at e4
    cases e4
    obtain ⟨G2, E2⟩ := G.laid (h := .tup [.int (i : Nat), y]) n
    refine ⟨_, G2, E2, dv_pair (show upd g'.G T _ T = some _ from upd_same) ?_ (ry.ext E2)⟩
    rw [Nat.zero_add]
    exact .int _
  · intro Fo g' m' σ' H' G M
    obtain ⟨vs, q1, rs⟩ := h G M
    exact ⟨vs, q1, by rw [enumF_len, rs.length]⟩
theorem hands_zz {q1 q2 : Src} {ds es : List D} (h1 : ∀ {Fo : Hp} {g' : Gh} {m' : Mst} {σ' : L2.St} {H' : Hp}, Good Z Fo g' m' σ' H' → Mor g.G g'.G g.μ g'.μ N m'.S.length → ∃ vs, q1.has Z.K H' vs ∧ DVs Z g'.G g'.μ m'.S.length ds vs)
    (h2 : ∀ {Fo : Hp} {g' : Gh} {m' : Mst} {σ' : L2.St} {H' : Hp}, Good Z Fo g' m' σ' H' → Mor g.G g'.G g.μ g'.μ N m'.S.length → ∃ vs, q2.has Z.K H' vs ∧ DVs Z g'.G g'.μ m'.S.length es vs) : Hands Z g N (zipF ds es) (ItZ Z.K q1 q2) := by
  constructor
  · intro Fo i g' m' σ' H' d G M e
    obtain ⟨vs, k1, rs⟩ := h1 G M
    obtain ⟨ws, k2, ss⟩ := h2 G M
    obtain ⟨x, y, ex, ey, rfl⟩ := zipF_at e
    obtain ⟨x', ex', rx⟩ := rs.get ex
    obtain ⟨y', ey', ry⟩ := ss.get ey
    refine ⟨⟨vs, ws, x', y', k1, k2, ex', ey'⟩, fun z H2 ⟨T, x2, y2, e1, n, e2, e3, e4⟩ => ?_⟩
    subst e1 e2
    have e5 := e3 vs k1
    rw [ex'] at e5
    cases e5
    have e6 := e4 ws k2
    rw [ey'] at e6
    cases e6
    obtain ⟨G2, E2⟩ := G.laid (h := .tup [x', y']) n
    exact ⟨_, G2, E2, dv_pair (show upd g'.G T _ T = some _ from upd_same) (rx.ext E2) (ry.ext E2)⟩
  · intro Fo g' m' σ' H' G M
    obtain ⟨vs, k1, rs⟩ := h1 G M
    obtain ⟨ws, k2, ss⟩ := h2 G M
    have l1 := rs.length
    have l2 := ss.length
    rw [zipF_len]
    exact ⟨vs, ws, k1, k2, by omega, by omega, by omega⟩
def enD : List D → Option (List D)
  | [d] => (itemsD d).map (enumF 0)
  | _ => none
def enM (f : Mo (List D)) : Mo (List D) := f.bind fun ds => .opt (enD ds)
def zzD : List D → Option (List D)
  | [a, b] => match itemsD a, itemsD b with
    | some x, some y => some (zipF x y)
    | _, _ => none
  | _ => none
def zzM (f : Mo (List D)) : Mo (List D) := f.bind fun ds => .opt (zzD ds)
section
variable {tg a b : Expr} {f : Mo (List D)} {p pos tpos : Pos} {elts : List Expr} {kk : Nat}
theorem di_en (hK : X.K = Z.K) (hg : Gl X "enumerate") (hm : X.mg "enumerate" = none) (hs : starEach [a] X.env = [(false, eval a X.env)]) (h : PA X [a] (tL Z Fo W f)) : PI X (.Tuple elts kk tpos) (.Call (.Name "enumerate" p) [a] [] pos) (tI Z Fo W (enM f)) :=
  pi_imp (pi_en hg hm h hs) fun σ H R ⟨g, m, G, h⟩ => ⟨g, m, G, (Pg.bind (R := RDs Z) h).imp fun vs H' ⟨ds, g', m', G', E, r, e, q⟩ => by
    match ds, r, q with
    | [d], .cons (v := v) r .nil, q =>
      simp only [enD] at q
      cases e1 : itemsD d with
      | none => simp only [e1, Option.map_none] at q; exact q.elim
      | some out =>
        simp only [e1, Option.map_some] at q
        obtain ⟨s, hv, k⟩ := src_at e1 r
        obtain ⟨xs, hx, _⟩ := k G' .rfl'
        exact ⟨v, s, xs, rfl, hv, hK ▸ hx, q _ _ _ G' .rfl' (hK ▸ hands_en fun G M => k G M)⟩⟩
theorem di_zz (hK : X.K = Z.K) (hg : Gl X "zip") (hm : X.mg "zip" = none) (hs : starEach [a, b] X.env = (false, eval a X.env) :: starEach [b] X.env) (hpl : (backTo pos (starEach [b] X.env)).any (·.1) = false) (h : PA X [a, b] (tL Z Fo W f)) : PI X (.Tuple elts kk tpos) (.Call (.Name "zip" p) [a, b] [] pos) (tI Z Fo W (zzM f)) :=
  pi_imp (pi_zz hg hm h hs hpl) fun σ H R ⟨g, m, G, h⟩ => ⟨g, m, G, (Pg.bind (R := RDs Z) h).imp fun vs H' ⟨ds, g', m', G', E, r, e, q⟩ => by
    match ds, r, q with
    | [d, d2], .cons (v := v) r (.cons (v := w) r2 .nil), q =>
      simp only [zzD] at q
      cases e1 : itemsD d with
      | none => simp only [e1] at q; exact q.elim
      | some out =>
        cases e2 : itemsD d2 with
        | none => simp only [e1, e2] at q; exact q.elim
        | some out2 =>
          simp only [e1, e2] at q
          obtain ⟨s, hv, k⟩ := src_at e1 r
          obtain ⟨s2, hv2, k2⟩ := src_at e2 r2
          obtain ⟨xs, hx, _⟩ := k G' .rfl'
          obtain ⟨ys, hy, _⟩ := k2 G' .rfl'
          exact ⟨v, w, s, s2, xs, ys, rfl, hv, hv2, hK ▸ hx, hK ▸ hy, q _ _ _ G' .rfl' (hK ▸ hands_zz (fun G M => k G M) fun G M => k2 G M)⟩⟩
end

/-! ### statements -/
inductive Fl where
  | nx | bk | ct | rt (d : D)
section
variable (Z : Stc) (Fo : Hp) (W : WX)
def PoS (g : Gh) (N : Nat) (E : Ends) : Res Fl → Prop
  | .ok .nx m => ∀ σ H g', Good Z Fo g' m σ H → Ext Fo g N g' m.S.length → E.nx σ H
  | .ok .bk m => ∀ σ H g', Good Z Fo g' m σ H → Ext Fo g N g' m.S.length → E.bk σ H
  | .ok .ct m => ∀ σ H g', Good Z Fo g' m σ H → Ext Fo g N g' m.S.length → E.ct σ H
  | .ok (.rt d) m => ∀ v σ H g', Good Z Fo g' m σ H → Ext Fo g N g' m.S.length → DV Z g'.G g'.μ m.S.length d v → E.rt v H
  | .exc x m => ∀ cls dd σ H g', Good Z Fo g' m σ H → Ext Fo g N g' m.S.length → ExcR Z g' m.S.length x cls dd H → W cls dd σ H
  | .no => False
def tS (f : Mo Fl) : TS := fun E σ H => ∃ g m, Good Z Fo g m σ H ∧ PoS Z Fo W g m.S.length E (f m)
end
theorem PoS.on {E : Ends} {r : Res Fl} (h : PoS Z Fo W g N E r) (e : Ext Fo g N g' N') : PoS Z Fo W g' N' E r := by
  cases r with
  | ok f m => cases f with
    | nx => exact fun s H g2 G E => h s H g2 G (e.trans E)
    | bk => exact fun s H g2 G E => h s H g2 G (e.trans E)
    | ct => exact fun s H g2 G E => h s H g2 G (e.trans E)
    | rt d => exact fun v s H g2 G E => h v s H g2 G (e.trans E)
  | exc x m => exact fun c dd s H g2 G E => h c dd s H g2 G (e.trans E)
  | no => exact h
/-- a reckoning ahead of the rest of a statement -/
theorem PoS.ahead {α β : Type} {R : Gh → Nat → Hp → α → β → Prop} {E : Ends} {r : Res α} {f : α → Mo Fl} (h : PoS Z Fo W g N E (r.bind f)) :
    Pg Z Fo W R g N σ (fun v H => ∃ d g' m', Good Z Fo g' m' σ H ∧ Ext Fo g N g' m'.S.length ∧ R g' m'.S.length H d v ∧ r = .ok d m' ∧ PoS Z Fo W g' m'.S.length E (f d m')) r := by
  cases r with
  | ok d m => exact fun v H g' G E R => ⟨d, g', m, G, E, R, rfl, PoS.on h E⟩
  | exc x m => exact fun c dd H g' G E x => h c dd σ H g' G E x
  | no => exact h
theorem PoS.go {E : Ends} {m : Mst} {σ : L2.St} {H : Hp} {N : Nat} {f : Fl} (h : PoS Z Fo W g N E (.ok f m)) (G : Good Z Fo g' m σ H) (e : Ext Fo g N g' m.S.length) : match f with
    | .nx => E.nx σ H | .bk => E.bk σ H | .ct => E.ct σ H | .rt d => ∀ v, DV Z g'.G g'.μ m.S.length d v → E.rt v H := by
  cases f with
  | nx => exact h σ H g' G e
  | bk => exact h σ H g' G e
  | ct => exact h σ H g' G e
  | rt d => exact fun v r => h v σ H g' G e r
theorem ps_imp {st : Stmt} {t t' : TS} (h : PS X st t) (q : ∀ E σ H, t' E σ H → t E σ H) : PS X st t' := ⟨fun pins s σ H E I k => h.run pins s σ H E I (q _ _ _ k)⟩
theorem pss_imp {st : List Stmt} {t t' : TS} (h : PSs X st t) (q : ∀ E σ H, t' E σ H → t E σ H) : PSs X st t' := ⟨fun pins s σ H E I k => h.run pins s σ H E I (q _ _ _ k)⟩
section
variable {st : Stmt} {sts : List Stmt} {e c : Expr} {pos : Pos} {f : Mo D} {u v : Mo Fl}
def skipM : Mo Fl := .ret .nx
def seqS (u v : Mo Fl) : Mo Fl := u.bind fun k => match k with
  | .nx => v
  | k => .ret k
/-- the ends of what stands ahead of more -/
theorem PoS.seq {E : Ends} {r : Res Fl} (h : PoS Z Fo W g N E (r.bind fun k => match k with | .nx => v | k => .ret k)) : PoS Z Fo W g N { E with nx := tS Z Fo W v E } r := by
  cases r with
  | ok k m => cases k with
    | nx => exact fun s H g' G e => ⟨g', m, G, PoS.on h e⟩
    | bk => exact h
    | ct => exact h
    | rt d => exact h
  | exc x m => exact h
  | no => exact h
theorem ds_nil : PSs X [] (tS Z Fo W skipM) := pss_imp pss_nil fun E σ H ⟨g, m, G, h⟩ => h σ H g G .rfl'
theorem ds_cons (h1 : PS X st (tS Z Fo W u)) (h2 : PSs X sts (tS Z Fo W v)) : PSs X (st :: sts) (tS Z Fo W (seqS u v)) := pss_imp (pss_cons h1 h2) fun E σ H ⟨g, m, G, h⟩ => ⟨g, m, G, PoS.seq h⟩
theorem ds_pass : PS X (.Pass pos) (tS Z Fo W skipM) := ps_imp ps_pass fun E σ H ⟨g, m, G, h⟩ => h σ H g G .rfl'
theorem ds_break : PS X (.Break pos) (tS Z Fo W (.ret .bk)) := ps_imp ps_break fun E σ H ⟨g, m, G, h⟩ => h σ H g G .rfl'
theorem ds_cont : PS X (.Continue pos) (tS Z Fo W (.ret .ct)) := ps_imp ps_continue fun E σ H ⟨g, m, G, h⟩ => h σ H g G .rfl'
theorem ds_doc {x j pos'} : PS X (.Expr (.Constant (.str x) j pos) pos') (tS Z Fo W skipM) := ps_imp ps_doc fun E σ H ⟨g, m, G, h⟩ => h σ H g G .rfl'
def retM (f : Mo D) : Mo Fl := f.bind fun d => .ret (.rt d)
theorem ds_ret (h : PE X e (tE Z Fo W f)) : PS X (.Return (some e) pos) (tS Z Fo W (retM f)) := ps_imp (ps_ret h) fun E σ H ⟨g, m, G, k⟩ => ⟨g, m, G, (PoS.ahead (R := RD Z) k).imp fun v H' ⟨d, g', m', G', _, r, _, q⟩ => q v σ H' g' G' .rfl' r⟩
theorem ds_retN : PS X (.Return none pos) (tS Z Fo W (.ret (.rt .non))) := ps_imp ps_retN fun E σ H ⟨g, m, G, h⟩ => h .non σ H g G .rfl' .non
def dropM {α : Type} (f : Mo α) : Mo Fl := f.bind fun _ => .ret .nx
theorem ds_expr (h : PE X e (tE Z Fo W f)) (hs : swapsWith e none pos.line X.env = pure false) : PS X (.Expr e pos) (tS Z Fo W (dropM f)) := ps_imp (ps_expr h hs) fun E σ H ⟨g, m, G, k⟩ => ⟨g, m, G, (PoS.ahead (R := RD Z) k).imp fun v H' ⟨d, g', m', G', _, r, _, q⟩ => q σ H' g' G' .rfl'⟩
def iffM (b : Mo Bool) (u v : Mo Fl) : Mo Fl := b.bind fun k => if k = true then u else v
theorem ds_if {b : Mo Bool} {xs ys : List Stmt} (h : PT X c (tT Z Fo W b)) (h1 : PSs X xs (tS Z Fo W u)) (h2 : PSs X ys (tS Z Fo W v)) : PS X (.If c xs ys pos) (tS Z Fo W (iffM b u v)) := ps_imp (ps_if h h1 h2) fun E σ H ⟨g, m, G, k⟩ => ⟨g, m, G, (PoS.ahead (R := RB) k).imp fun b H' ⟨d, g', m', G', _, r, _, q⟩ => by
  have r : d = b := r
  subst r
  cases d with
  | true => exact ⟨g', m', G', q⟩
  | false => exact ⟨g', m', G', q⟩⟩
/-! assignments -/
def setT (t : Tg) (d : D) : Mo Fl := fun m => match bindT t d m.ρ with
  | some ρ => .ok .nx { m with ρ := ρ }
  | none => .no
def asgM (t : Tg) (f : Mo D) : Mo Fl := f.bind fun d => setT t d
theorem ds_asg {tg : Expr} {t : Tg} (h : PE X e (tE Z Fo W f)) (ht : PG X tg (gT Z Fo t)) (hs : swapsWithSole [tg] e pos.line X.env = pure false) (hw : swappedStores [tg] e X.env = pure none) (h1 : (assignEach [tg] X.env).map (·.2) = [assign tg X.env]) : PS X (.Assign [tg] e pos) (tS Z Fo W (asgM t f)) :=
  ps_imp (ps_asg h ht hs hw h1) fun E σ H ⟨g, m, G, k⟩ => ⟨g, m, G, (PoS.ahead (R := RD Z) k).imp fun v H' ⟨d, g', m', G', _, r, _, q⟩ => by
    simp only [setT] at q
    cases e1 : bindT t d m'.ρ with
    | none => rw [e1] at q; exact q.elim
    | some ρ' =>
      rw [e1] at q
      exact ⟨g', m', d, ρ', G', r, e1, fun σ' G2 _ _ => q σ' H' g' G2 .rfl'⟩⟩
/-- a new object is given to a slot -/
def Gh.give (g : Gh) (p : Addr) (w : Ow) : Gh := { g with ow := fun b => if b = p then some w else g.ow b }
theorem Good.give {p : Addr} {h : HO} {o : Ob} {i : Nat} (G : Good Z Fo g m σ H) (e : H p = some h) (r : ObR Z g m.S.length o h) (n : g.G p = none) (w : g.ow p = none) (f : Fo p = none) (lt : i < m.ρ.length) :
    Good Z Fo (g.give p (.sl i)) { m with ρ := m.ρ.set i (.own o) } (σ.set i (some (.ref p))) H ∧ Ext Fo g m.S.length (g.give p (.sl i)) m.S.length := by
  have E : Ext Fo g m.S.length (g.give p (.sl i)) m.S.length := ⟨⟨fun _ _ h => h, fun _ _ => rfl, Nat.le_refl _⟩, fun _ _ h => .inl h⟩
  have nw : ∀ {a : Addr} {u : Ow}, g.ow a = some u → (g.give p (.sl i)).ow a = some u := fun {a u} q => by
    show (if a = p then some (Ow.sl i) else g.ow a) = some u
    rw [if_neg (fun z => by rw [z, w] at q; cases q)]; exact q
  refine ⟨⟨⟨G.s.gh, G.s.fo, fun k s q => ?_, fun a u q => ?_⟩, by simp [G.len], fun j s q => ?_⟩, E⟩
  · have x := G.s.st k s q
    cases s with
    | ob o' => obtain ⟨h', x1, x2, x3⟩ := x; exact ⟨h', nw x1, x2, x3.ext E⟩
    | ins c fs => obtain ⟨C, dx, fs', x1, x2, x3, x4, x5, x6⟩ := x; exact ⟨C, dx, fs', nw x1, x2, x3, x4, nw x5, x6.ext E⟩
  · have q' : (if a = p then some (Ow.sl i) else g.ow a) = some u := q
    by_cases z : a = p
    · subst z; exact ⟨n, f, h, e⟩
    · rw [if_neg z] at q'; exact G.s.ow a u q'
  · have q : (m.ρ.set i (.own o))[j]? = some s := q
    by_cases z : i = j
    · subst z
      rw [List.getElem?_set_self lt] at q
      cases q
      refine ⟨p, h, List.getElem?_set_self (by rw [← G.len]; exact lt), ?_, e, r.ext E⟩
      show (if p = p then some (Ow.sl i) else g.ow p) = _
      rw [if_pos rfl]
    · rw [List.getElem?_set_ne z] at q
      have x := G.sl j s q
      cases s with
      | un => trivial
      | va d => obtain ⟨v, q1, q2⟩ := x; exact ⟨v, by rw [List.getElem?_set_ne z]; exact q1, q2.ext E⟩
      | own o' => obtain ⟨a, h', q1, q2, q3, q4⟩ := x; exact ⟨a, h', by rw [List.getElem?_set_ne z]; exact q1, nw q2, q3, q4.ext E⟩
def ownM (i : Nat) (f : Mo Ob) : Mo Fl := f.bind fun o m => if i < m.ρ.length then .ok .nx { m with ρ := m.ρ.set i (.own o) } else .no
theorem ds_own {st : Stmt} {i : Nat} {f : Mo Ob} (h : PS X st (tAsg (tN Z Fo W f) (gName i))) : PS X st (tS Z Fo W (ownM i f)) :=
  ps_imp h fun E σ H ⟨g, m, G, k⟩ => ⟨g, m, G, (PoS.ahead (R := RN Z Fo) k).imp fun v H' ⟨o, g', m', G', _, ⟨p, u, ev, e, r, n, w, fo⟩, _, q⟩ => by
    subst ev
    by_cases lt : i < m'.ρ.length
    · rw [if_pos lt] at q
      obtain ⟨G2, E2⟩ := G'.give e r n w fo lt
      exact q _ H' _ G2 E2
    · rw [if_neg lt] at q; exact q.elim⟩
/-! loops -/
def forL (t : Tg) (b : Mo Fl) : List D → Mo Fl
  | [] => .ret .nx
  | d :: ds => fun m => match bindT t d m.ρ with
    | none => .no
    | some ρ => (b { m with ρ := ρ }).bind fun k => match k with
      | .bk => .ret .nx
      | .rt d => .ret (.rt d)
      | _ => forL t b ds
def forM (src : Mo (List D)) (t : Tg) (b : Mo Fl) : Mo Fl := src.bind fun ds => forL t b ds
theorem PoS.turn {E : Ends} {r : Res Fl} {k : Mo Fl} {T : L2.St → Hp → Prop} (h : PoS Z Fo W g N E (r.bind fun c => match c with | .bk => .ret .nx | .rt d => .ret (.rt d) | _ => k))
    (q : ∀ m σ H g', Good Z Fo g' m σ H → Ext Fo g N g' m.S.length → PoS Z Fo W g' m.S.length E (k m) → T σ H) : PoS Z Fo W g N { E with nx := T, ct := T, bk := E.nx } r := by
  cases r with
  | ok c m => cases c with
    | nx => exact fun s H g' G e => q m s H g' G e (PoS.on h e)
    | bk => exact h
    | ct => exact fun s H g' G e => q m s H g' G e (PoS.on h e)
    | rt d => exact h
  | exc x m => exact h
  | no => exact h
theorem ds_for {tg iter : Expr} {body : List Stmt} {t : Tg} {src : Mo (List D)} {b : Mo Fl} (hp : PassesOwn (model X.prog X.w) X.A X.env X.xe) (hc : X.calm = true) (hi : PI X tg iter (tI Z Fo W src)) (hg : PG X tg (gT Z Fo t)) (hb : PSs X body (tS Z Fo W b))
    (hs : ∀ x, foldedSetIterable iter X.env x = pure x) : PS X (.For tg iter body [] pos) (tS Z Fo W (forM src t b)) :=
  ps_imp (ps_for hp hc hi hg hb hs) fun E σ H ⟨g, m, G, k⟩ => ⟨g, m, G, (PoS.ahead (R := RI Z) k).imp fun J H1 ⟨ds, g1, m1, G1, _, hd, _, q⟩ => by
    refine ⟨fun i c σ H => c = ds.length - i ∧ i ≤ ds.length ∧ ∃ g' m', Good Z Fo g' m' σ H ∧ Mor g1.G g'.G g1.μ g'.μ m1.S.length m'.S.length ∧ PoS Z Fo W g' m'.S.length E (forL t b (ds.drop i) m'), ⟨ds.length, by simp, Nat.zero_le _, g1, m1, G1, .rfl', by simpa using q⟩, ?_⟩
    rintro i c σ2 H2 ⟨rfl, le, g2, m2, G2, M, q2⟩
    by_cases lt : i < ds.length
    · obtain ⟨go, yl⟩ := hd.go Fo i g2 m2 σ2 H2 ds[i] G2 M (List.getElem?_eq_getElem lt)
      rw [List.drop_eq_getElem_cons lt] at q2
      simp only [forL] at q2
      cases e1 : bindT t ds[i] m2.ρ with
      | none => rw [e1] at q2; exact q2.elim
      | some ρ' =>
        rw [e1] at q2
        refine .inr ⟨go, fun σ3 H3 => ∃ g3 m3, Good Z Fo g3 m3 σ3 H3 ∧ Mor g1.G g3.G g1.μ g3.μ m1.S.length m3.S.length ∧ PoS Z Fo W g3 m3.S.length E (forL t b (ds.drop (i + 1)) m3), fun σ3 H3 ⟨g3, m3, G3, M3, q3⟩ => ⟨ds.length - (i + 1), by omega, rfl, lt, g3, m3, G3, M3, q3⟩, fun x H3 y => ?_⟩
        obtain ⟨g3, G3, E3, dv⟩ := yl x H3 y
        refine ⟨g3, m2, ds[i], ρ', G3, dv, e1, fun σ4 G4 _ _ => ⟨g3, _, G4, PoS.turn (PoS.on q2 E3) fun m5 σ5 H5 g5 G5 E5 p5 => ⟨g5, m5, G5, M.trans (E3.mor.trans E5.mor), p5⟩⟩⟩
    · have e2 : i = ds.length := by omega
      subst e2
      rw [List.drop_length] at q2
      exact .inl ⟨hd.stop Fo g2 m2 σ2 H2 G2 M, q2 σ2 H2 g2 G2 .rfl'⟩⟩
end
end
end LB

namespace LB
open PySem L2 PyProof.Rows

theorem zip_nolen : typeLookup (.type "zip") "__len__" = pure none := am_miss_of_fast (by decide +kernel)
theorem zip_nohint : typeLookup (.type "zip") "__length_hint__" = pure none := am_miss_of_fast (by decide +kernel)
section
variable {prog : Program} {w : World} {A : Around} {E : Value → Shared → Prop} {s : Shared} {z TI TO i1 i2 T : Addr} {fp1 fp2 : List Addr} {n1 n2 i : Nat} {P1 P2 : Nat → Value → Prop} {St1 St2 : Nat → Heap → Prop} {fl : Bool} {oT : Obj}
/-- a zip that gave a tuple which is kept: the next is new -/
theorem zz_held {Q : Value → Shared → Prop} (S : ZipSep2 z TI TO i1 i2 fp1 fp2) (D1 : Draws prog w A i1 fp1 n1 P1 St1) (D2 : Draws prog w A i2 fp2 n2 P2 St2)
    (hz : IsZipHeld s.heap z TI TO T fl) (hT : s.heap.get? T = some oT) (hTI : IsTupOf2 s.heap TI (.ref i1) (.ref i2)) (st1 : St1 i s.heap) (st2 : St2 i s.heap) (lt1 : i < n1) (lt2 : i < n2)
    (hQ : ∀ x y h' tk, P1 i x → P2 i y → IsZipHeld h' z TI TO T true → St1 (i + 1) h' → St2 (i + 1) h' → IsTupOf2 h' s.heap.objs.size x y → (∀ c o, c ≠ z → c ≠ i1 → c ≠ i2 → s.heap.get? c = some o → h'.get? c = some o) → Q (.ref s.heap.objs.size) { s with heap := h', toks := tk }) :
    wpAny (model prog w) A (Builtin.«zip.__next__» ⟨[.ref z], []⟩) (fun fin s' => ∃ v, fin = .done (.ret v) ∧ Q v s') E s := by
  obtain ⟨hp, g, d, tk0, os⟩ := s
  show wpAny _ _ (field (.ref z) 2 >>= _) _ _ _
  refine wpAny_bind (wpAny_field hz rfl (x := .bool false) rfl ?_)
  show wpAny _ _ (field (.ref z) 3 >>= _) _ _ _
  refine wpAny_bind (wpAny_field hz rfl (x := .ref TI) rfl (wpAny_bind (wpAny_seqItems hTI rfl ?_)))
  show wpAny _ _ (Builtin.SmallTypes.ownedTupleIsFree (.ref z) >>= _) _ _ _
  refine wpAny_bind (wpAny_tupleHeld_zip hz hT fun g1 z1 k1 => ?_)
  simp only [Bool.false_eq_true, if_false]
  refine wpAny_bind ?_
  rw [← Array.forIn_toList]
  simp only [List.forIn_cons, List.forIn_nil]
  refine wpAny_bind (wpAny_bind (wpAny_holding ?_))
  show wpAny _ _ (Builtin.SmallTypes.nextOf (.ref i1) >>= _) _ _ ⟨g1, g, d, tk0, os⟩
  refine wpAny_bind (D1.item i _ _ _ lt1 (D1.over st1 k1 S.zf1) fun x g2 t2 px s2 k2 => wpAny_pure (wpAny_pure ?_))
  replace k2 : Heap.SameBut i1 g1 g2 := k2
  refine wpAny_bind (wpAny_bind (wpAny_holding ?_))
  show wpAny _ _ (Builtin.SmallTypes.nextOf (.ref i2) >>= _) _ _ ⟨g2, g, d, t2, os⟩
  refine wpAny_bind (D2.item i _ _ _ lt2 (D2.over (D2.over st2 k1 S.zf2) k2 S.sep1_2) fun y g3 t3 py s3 k3 => wpAny_pure (wpAny_pure (wpAny_pure ?_)))
  replace k3 : Heap.SameBut i2 g2 g3 := k3
  show wpAny _ _ (newTuple [x, y] >>= _) _ _ _
  refine wpAny_bind (wpAny_newTuple ?_)
  have sz : g3.objs.size = hp.objs.size := by rw [k3.1, k2.1, k1.1]
  have z3 : IsZipHeld g3 z TI TO T true := k3.extBut _ _ S.zi2 (k2.extBut _ _ S.zi1 z1)
  have kk : ∀ c o, c ≠ z → c ≠ i1 → c ≠ i2 → hp.get? c = some o → g3.get? c = some o := fun c o c1 c2 c3 e => k3.extBut _ _ c3 (k2.extBut _ _ c2 (k1.extBut _ _ c1 e))
  have s2' : St1 (i + 1) g3 := D1.over s2 k3 S.sep2_1
  refine wpAny_pure ⟨_, rfl, ?_⟩
  show Q (.ref g3.objs.size) ⟨g3.push { cls := .type "tuple", data := .seq #[x, y] }, g, d, t3, os⟩
  have hp2 : IsTupOf2 (g3.push { cls := .type "tuple", data := .seq #[x, y] }) g3.objs.size x y := Heap.get?_push_size _ rfl
  rw [sz] at hp2 ⊢
  exact hQ x y _ t3 px py (Heap.get?_push_of_some _ z3) (D1.frame _ _ _ s2' fun b _ o e => Heap.get?_push_of_some _ e) (D2.frame _ _ _ s3 fun b _ o e => Heap.get?_push_of_some _ e) hp2 fun c o c1 c2 c3 e => Heap.get?_push_of_some _ (kk c o c1 c2 c3 e)
theorem zz_held_end {Q : Fin → Shared → Prop} (S : ZipSep2 z TI TO i1 i2 fp1 fp2) (D1 : Draws prog w A i1 fp1 n1 P1 St1) (D2 : Draws prog w A i2 fp2 n2 P2 St2)
    (hz : IsZipHeld s.heap z TI TO T fl) (hT : s.heap.get? T = some oT) (hTI : IsTupOf2 s.heap TI (.ref i1) (.ref i2)) (st1 : St1 i s.heap) (st2 : St2 i s.heap) (le1 : i ≤ n1) (le2 : i ≤ n2) (hend : i = n1 ∨ i = n2)
    (hE : ∀ h' tk e, (∀ c o, c ≠ z → c ≠ i1 → c ≠ i2 → s.heap.get? c = some o → h'.get? c = some o) → (∃ o, h'.get? e = some o ∧ o.cls = .type "StopIteration") → E (.ref e) { s with heap := h', toks := tk }) :
    wpAny (model prog w) A (Builtin.«zip.__next__» ⟨[.ref z], []⟩) Q E s := by
  obtain ⟨hp, g, d, tk0, os⟩ := s
  show wpAny _ _ (field (.ref z) 2 >>= _) _ _ _
  refine wpAny_bind (wpAny_field hz rfl (x := .bool false) rfl ?_)
  show wpAny _ _ (field (.ref z) 3 >>= _) _ _ _
  refine wpAny_bind (wpAny_field hz rfl (x := .ref TI) rfl (wpAny_bind (wpAny_seqItems hTI rfl ?_)))
  show wpAny _ _ (Builtin.SmallTypes.ownedTupleIsFree (.ref z) >>= _) _ _ _
  refine wpAny_bind (wpAny_tupleHeld_zip hz hT fun g1 z1 k1 => ?_)
  simp only [Bool.false_eq_true, if_false]
  refine wpAny_bind ?_
  rw [← Array.forIn_toList]
  simp only [List.forIn_cons, List.forIn_nil]
  refine wpAny_bind (wpAny_bind (wpAny_holding ?_))
  show wpAny _ _ (Builtin.SmallTypes.nextOf (.ref i1) >>= _) _ _ ⟨g1, g, d, tk0, os⟩
  have st1' := D1.over st1 k1 S.zf1
  by_cases lt1 : i < n1
  · have e2 : i = n2 := by omega
    refine wpAny_bind (D1.item i _ _ _ lt1 st1' fun x g2 t2 px s2 k2 => wpAny_pure (wpAny_pure ?_))
    replace k2 : Heap.SameBut i1 g1 g2 := k2
    refine wpAny_bind (wpAny_bind (wpAny_holding ?_))
    show wpAny _ _ (Builtin.SmallTypes.nextOf (.ref i2) >>= _) _ _ ⟨g2, g, d, t2, os⟩
    have st2' := D2.over (D2.over st2 k1 S.zf2) k2 S.sep1_2
    subst e2
    refine wpAny_bind (D2.done _ _ _ st2' fun g3 e k3 he => ?_)
    exact hE g3 t2 e (fun c o c1 c2 c3 x => k3 _ _ c3 (k2.extBut _ _ c2 (k1.extBut _ _ c1 x))) he
  · have e1 : i = n1 := by omega
    subst e1
    refine wpAny_bind (D1.done _ _ _ st1' fun g3 e k3 he => ?_)
    exact hE g3 tk0 e (fun c o c1 c2 c3 x => k3 _ _ c2 (k1.extBut _ _ c1 x)) he
theorem next_zz_held {Q : Option Value → Shared → Prop} (S : ZipSep2 z TI TO i1 i2 fp1 fp2) (D1 : Draws prog w A.in1 i1 fp1 n1 P1 St1) (D2 : Draws prog w A.in1 i2 fp2 n2 P2 St2)
    (hz : IsZipHeld s.heap z TI TO T fl) (hT : s.heap.get? T = some oT) (hTI : IsTupOf2 s.heap TI (.ref i1) (.ref i2)) (st1 : St1 i s.heap) (st2 : St2 i s.heap) (lt1 : i < n1) (lt2 : i < n2)
    (hQ : ∀ x y h' tk, P1 i x → P2 i y → IsZipHeld h' z TI TO T true → St1 (i + 1) h' → St2 (i + 1) h' → IsTupOf2 h' s.heap.objs.size x y → (∀ c o, c ≠ z → c ≠ i1 → c ≠ i2 → s.heap.get? c = some o → h'.get? c = some o) → Q (some (.ref s.heap.objs.size)) { s with heap := h', toks := tk }) :
    wpAny (model prog w) A (pyNext (.ref z)) Q E s := by
  have ty : s.TypeIs (.ref z) "zip" := ⟨_, hz, rfl⟩
  unfold pyNext
  exact wpAny_bind (wpAny_attempt (wpAny_callSpecial?_slot (name := Str.ofString "__next__") ty F.slot_zip_next
    (wpAny_call_entry F.slot_zip_next ty F.entry_zip_next (zz_held S D1 D2 hz hT hTI st1 st2 lt1 lt2 fun x y h' tk a b c d e f r => wpAny_pure (hQ x y h' tk a b c d e f r)) (F.args_zip_next_1 _))))
theorem next_zz_end {Q : Option Value → Shared → Prop} (S : ZipSep2 z TI TO i1 i2 fp1 fp2) (D1 : Draws prog w A.in1 i1 fp1 n1 P1 St1) (D2 : Draws prog w A.in1 i2 fp2 n2 P2 St2)
    (hz : IsZipHeld s.heap z TI TO T fl) (hT : s.heap.get? T = some oT) (hTI : IsTupOf2 s.heap TI (.ref i1) (.ref i2)) (st1 : St1 i s.heap) (st2 : St2 i s.heap) (le1 : i ≤ n1) (le2 : i ≤ n2) (hend : i = n1 ∨ i = n2)
    (hQ : ∀ h' tk, (∀ c o, c ≠ z → c ≠ i1 → c ≠ i2 → s.heap.get? c = some o → h'.get? c = some o) → Q none { s with heap := h', toks := tk }) : wpAny (model prog w) A (pyNext (.ref z)) Q E s := by
  have ty : s.TypeIs (.ref z) "zip" := ⟨_, hz, rfl⟩
  unfold pyNext
  refine wpAny_bind (wpAny_attempt (wpAny_callSpecial?_slot (name := Str.ofString "__next__") ty F.slot_zip_next
    (wpAny_call_entry F.slot_zip_next ty F.entry_zip_next (zz_held_end S D1 D2 hz hT hTI st1 st2 le1 le2 hend fun h' tk e hk he => ?_) (F.args_zip_next_1 _))))
  obtain ⟨o, ho, hc⟩ := he
  exact wpAny_bind (wpAny_isInstance (T := "StopIteration") (b := true) ⟨o, ho, hc⟩ isSubtype_stop (wpAny_pure (hQ _ _ hk)))
end

section
variable {X : Cx} {pins : List (Addr × Obj)} {σ : L2.St} {H : Hp} {s : Shared} {h' : Heap}
/-- an untracked object of ours is tracked from now on -/
theorem Inv.put {T : Addr} {ob : HO} (I : Inv X pins σ H s) (f : FpOk X pins H T) (new : ObjOk X.prog X.w (upd H T ob) s.heap T ob) : Inv X pins σ (upd H T ob) s := by
  have nT : H T = none := f.1
  refine I.step (h' := s.heap) (g' := s.gens) (d' := s.drawn) (t' := s.toks) (ch := [T]) (fun b hb => ?_) (fun b o _ _ _ e _ => e) (fun b o _ _ _ e _ => ⟨o.slots, e⟩)
    (fun b o hb e n => ?_) (fun b o _ e => ⟨o, e⟩) (fun b xs e => ?_) (fun b o u e => ?_) (fun b ps e => ⟨#[], ?_⟩) (fun m hm => hm) (fun b u e => ?_) I.bare
  · cases List.mem_singleton.mp hb
    exact ⟨f.2.2.2.1, f.2.1, f.2.2.2.2.1, f.2.2.2.2.2⟩
  · rw [upd_ne (fun z => hb (by rw [z]; exact List.mem_singleton.mpr rfl))]; exact n
  · rw [upd_ne (ne_of_none e nT)]; exact e
  · rw [upd_ne (ne_of_none e nT)]; exact e
  · rw [upd_ne (ne_of_none e nT), e]; simp
  · by_cases hb : b = T
    · subst hb
      rw [upd_same] at e
      cases e
      exact new
    · rw [upd_ne hb] at e
      exact (I.hok b u e).stay (fun c v hc q => q) (fun c q => by rw [upd_ne (ne_of_none q nT)]; exact q) fun c xs q => by rw [upd_ne (ne_of_none q nT)]; exact q
variable {Z : Stc} {Fo : Hp} {g : Gh} {m : Mst} {q1 q2 : Src} {xs ys : List D} {z TI TO i1 i2 S : Addr}
/-- the state while a list is made of a zip: i pairs are in it -/
structure LzS (X : Cx) (pins : List (Addr × Obj)) (σ : L2.St) (Z : Stc) (Fo : Hp) (g : Gh) (m : Mst) (q1 q2 : Src) (ps : List D) (z TI TO i1 i2 S : Addr) (i : Nat) (s : Shared) : Prop where
  ex : ∃ (H : Hp) (g' : Gh) (vs : List V) (acc : Array Value) (c : Nat), Inv X pins σ H s ∧ Good Z Fo g' m σ H ∧ Ext Fo g m.S.length g' m.S.length ∧ Vals vs acc.toList ∧ DVs Z g'.G g'.μ m.S.length (ps.take i) vs ∧
    s.heap.get? S = some { cls := .type "list", dict := none, data := .seq acc c, slots := #[] } ∧ (∀ b ∈ [z, TI, TO, i1, i2, S], FpOk X pins H b) ∧
    (IsZip s.heap z TI TO .none ∨ ∃ T f u, IsZipHeld s.heap z TI TO T f ∧ H T = some u) ∧ (∃ a b, IsTupOf2 s.heap TO a b) ∧ IsTupOf2 s.heap TI (.ref i1) (.ref i2) ∧ q1.itn i1 i s.heap ∧ q2.itn i2 i s.heap
abbrev Has (Z : Stc) (g : Gh) (N : Nat) (q : Src) (ds : List D) : Prop := ∀ {Fo : Hp} {g' : Gh} {m' : Mst} {σ' : L2.St} {H' : Hp}, Good Z Fo g' m' σ' H' → Mor g.G g'.G g.μ g'.μ N m'.S.length → ∃ vs, q.has Z.K H' vs ∧ DVs Z g'.G g'.μ m'.S.length ds vs
/-- the list is made -/
structure LzE (X : Cx) (pins : List (Addr × Obj)) (σ : L2.St) (Z : Stc) (Fo : Hp) (g : Gh) (m : Mst) (ps : List D) (S : Addr) (s : Shared) : Prop where
  ex : ∃ (H : Hp) (g' : Gh) (vs : List V) (acc : Array Value) (c : Nat), Inv X pins σ H s ∧ Good Z Fo g' m σ H ∧ Ext Fo g m.S.length g' m.S.length ∧ Vals vs acc.toList ∧ DVs Z g'.G g'.μ m.S.length ps vs ∧
    s.heap.get? S = some { cls := .type "list", dict := none, data := .seq acc c, slots := #[] } ∧ FpOk X pins H S
theorem lz_loop {A : Around} {R : Result → Shared → Prop} {res : Value} (hK : X.K = Z.K) (hh : A.handled = none) (h1 : Has Z g m.S.length q1 xs) (h2 : Has Z g m.S.length q2 ys) (D : ZipSep2 z TI TO i1 i2 (i1 :: q1.adr) (i2 :: q2.adr)) (n1 : i1 ∉ q1.adr) (n2 : i2 ∉ q2.adr)
    (nS : S ≠ z ∧ S ≠ TI ∧ S ≠ TO ∧ S ≠ i1 ∧ S ≠ i2) (hz : (zipF xs ys).length ≤ sizeLine) (done : ∀ s', LzE X pins σ Z Fo g m (zipF xs ys) S s' → R (.ok (.ret res)) s') :
    ∀ (k i : Nat) (s : Shared), (zipF xs ys).length - i = k → i ≤ (zipF xs ys).length → LzS X pins σ Z Fo g m q1 q2 (zipF xs ys) z TI TO i1 i2 S i s → codeAny (model X.prog X.w) A (.builtin "list.extend.loop" ⟨[.ref S, .ref z, res], []⟩) R s := by
  have ln := zipF_len xs ys
  have hh1 : A.in1.in1.handled = none := hh
  intro k
  induction k with
  | zero =>
    intro i s hk hi st
    have e : i = (zipF xs ys).length := by omega
    refine codeAny_builtin F.entry_extend_loop ?_
    rw [Around.under_plainId F.plain_extend_loop _]
    show wpAny _ A.in1 (pyNext (.ref z) >>= _) _ _ s
    obtain ⟨H, g', vs, acc, c, I, G, E, rv, rd, hS, fp, zs, ⟨ta, tb, hTO⟩, hTI, t1, t2⟩ := st
    obtain ⟨us, hu, ru⟩ := h1 G E.mor
    obtain ⟨ws, hw, rw'⟩ := h2 G E.mor
    obtain ⟨P1, S1, D1, s1, b1, _⟩ := Src.draws (B := A.in1.in1) I hh1 (hK ▸ hu) t1 n1
    obtain ⟨P2, S2, D2, s2, b2, _⟩ := Src.draws (B := A.in1.in1) I hh1 (hK ▸ hw) t2 n2
    have l1 := ru.length
    have l2 := rw'.length
    have rd' : DVs Z g'.G g'.μ m.S.length (zipF xs ys) vs := by
      rw [List.take_of_length_le (by omega)] at rd
      exact rd
    have fin : ∀ h' tk, (∀ b o, b ≠ z → b ≠ TO → b ≠ i1 → b ≠ i2 → s.heap.get? b = some o → h'.get? b = some o) → R (.ok (.ret res)) { s with heap := h', toks := tk } := fun h' tk hk => done _ ⟨H, g', vs, acc, c,
      I.turnedL (ch := [z, TO, i1, i2]) (fun b o hb e => hk b o (fun y => hb (by simp [y])) (fun y => hb (by simp [y])) (fun y => hb (by simp [y])) (fun y => hb (by simp [y])) e) (fun b hb => fp b (by
        have e' : b = z ∨ b = TO ∨ b = i1 ∨ b = i2 := by simpa using hb
        rcases e' with y | y | y | y <;> simp [y])), G, E, rv, rd', hk S _ nS.1 nS.2.2.1 nS.2.2.2.1 nS.2.2.2.2 hS, fp S (by simp)⟩
    rcases zs with z0 | ⟨T, f, u, zh, hT⟩
    · exact wpAny_bind (wpAny_pyNext_zipD2_end D D1 D2 z0 hTI hTO s1 s2 (by omega) (by omega) (by omega) fun h' tk hk => wpAny_pure (fin h' tk hk))
    · obtain ⟨oT, eT⟩ := objOk_get (I.hok T u hT)
      exact wpAny_bind (next_zz_end D D1 D2 zh eT hTI s1 s2 (by omega) (by omega) (by omega) fun h' tk hk => wpAny_pure (fin h' tk fun b o n1 _ n3 n4 e => hk b o n1 n3 n4 e))
  | succ k ih =>
    intro i s hk hi st
    have lt : i < (zipF xs ys).length := by omega
    refine codeAny_builtin F.entry_extend_loop ?_
    rw [Around.under_plainId F.plain_extend_loop _]
    show wpAny _ A.in1 (pyNext (.ref z) >>= _) _ _ s
    obtain ⟨H, g', vs, acc, c, I, G, E, rv, rd, hS, fp, zs, ⟨ta, tb, hTO⟩, hTI, t1, t2⟩ := st
    obtain ⟨us, hu, ru⟩ := h1 G E.mor
    obtain ⟨ws, hw, rw'⟩ := h2 G E.mor
    obtain ⟨P1, S1, D1, s1, b1, r1⟩ := Src.draws (B := A.in1.in1) I hh1 (hK ▸ hu) t1 n1
    obtain ⟨P2, S2, D2, s2, b2, r2⟩ := Src.draws (B := A.in1.in1) I hh1 (hK ▸ hw) t2 n2
    have l1 := ru.length
    have l2 := rw'.length
    obtain ⟨d, e, ed, ee, ep⟩ := zipF_at (List.getElem?_eq_getElem lt)
    obtain ⟨dv, edv, rdv⟩ := ru.get ed
    obtain ⟨ev, eev, rev⟩ := rw'.get ee
    have fresh : H s.heap.objs.size = none := I.hok.fresh (Nat.le_refl _)
    have accl : acc.size = i := by
      have q1 := rv.length
      have q2 := rd.length
      rw [List.length_take] at q2
      have q3 : acc.toList.length = acc.size := by simp
      omega
    -- the rest of a turn, whichever way the tuple came
    have rest : ∀ x y h' tk, P1 i x → P2 i y → S1 (i + 1) h' → S2 (i + 1) h' → IsTupOf2 h' s.heap.objs.size x y → (∃ T f, IsZipHeld h' z TI TO T f ∧ ((∃ u, H T = some u) ∨ T = s.heap.objs.size)) → (∃ a b, IsTupOf2 h' TO a b) → (∀ b o, b ≠ z → b ≠ TO → b ≠ i1 → b ≠ i2 → s.heap.get? b = some o → h'.get? b = some o) →
        wpAny (model X.prog X.w) A.in1 (updateSeq S (·.push (.ref s.heap.objs.size)) >>= fun _ => again (.builtin "list.extend.loop" ⟨[.ref S, .ref z, res], []⟩)) (fun fin s' => match fin with | .done f => R (.ok f) s' | .again c' => c'.quiet = true ∧ codeAny (model X.prog X.w) A c' R s') (fun e s' => R (.error e) s') { s with heap := h', toks := tk } := fun x y h' tk p1 p2 q1' q2' hT2 zh ⟨a, b, hO⟩ hk => by
      obtain ⟨x', ex, rx⟩ := r1 i x p1
      rw [edv] at ex; cases ex
      obtain ⟨y', ey, ry⟩ := r2 i y p2
      rw [eev] at ey; cases ey
      have hS' := hk S _ nS.1 nS.2.2.1 nS.2.2.2.1 nS.2.2.2.2 hS
      have nTS : s.heap.objs.size ≠ S := Nat.ne_of_gt (Heap.lt_size hS)
      refine wpAny_bind (wpAny_updateSeq (s := { s with heap := h', toks := tk }) (hz := by
        show acc.size ≤ sizeLine
        omega) hS' rfl (wpAny_pure ⟨plainId_quiet F.plain_extend_loop _, ?_⟩))
      have hS2 := Heap.get?_update_self (Obj.mapSeq (·.push (Value.ref s.heap.objs.size))) hS' rfl
      have ok2 : ∀ b o, b ≠ S → h'.get? b = some o → (h'.update S (Obj.mapSeq (·.push (Value.ref s.heap.objs.size)))).get? b = some o := fun b o n e => (Heap.get?_update_other _ _ (Ne.symm n)).trans e
      have hT3 := ok2 _ _ nTS hT2
      have new : ObjOk X.prog X.w (upd H s.heap.objs.size (.tup [dv, ev])) (h'.update S (Obj.mapSeq (·.push (Value.ref s.heap.objs.size)))) s.heap.objs.size (.tup [dv, ev]) :=
        ⟨by show 2 ≤ sizeLine; decide, [x, y], .cons rx (.cons ry .nil), ⟨_, hT3, rfl, _, rfl⟩⟩
      have I2 : Inv X pins σ (upd H s.heap.objs.size (.tup [dv, ev])) { s with heap := h'.update S (Obj.mapSeq (·.push (Value.ref s.heap.objs.size))), toks := tk } :=
        I.turnedNew (ch := [z, TI, TO, i1, i2, S]) (fun b o hb e => ok2 b o (fun y => hb (by simp [y])) (hk b o (fun y => hb (by simp [y])) (fun y => hb (by simp [y])) (fun y => hb (by simp [y])) (fun y => hb (by simp [y])) e)) fp (Nat.le_refl _) new
      obtain ⟨G2, E2⟩ := G.laid (h := .tup [dv, ev]) fresh
      have pair : DV Z (g'.keep s.heap.objs.size (.tup [dv, ev])).G (g'.keep s.heap.objs.size (.tup [dv, ev])).μ m.S.length (zipF xs ys)[i] (.ref s.heap.objs.size) := by
        rw [ep]
        exact dv_pair (show upd g'.G _ _ s.heap.objs.size = some _ from upd_same) (rdv.ext E2) (rev.ext E2)
      refine ih (i + 1) _ (by omega) lt ⟨_, _, vs ++ [.ref s.heap.objs.size], acc.push (.ref s.heap.objs.size), _, I2, G2, E.trans E2, ?_, ?_, hS2, fun b hb => ?_, ?_, ⟨a, b, ok2 _ _ nS.2.2.1.symm hO⟩, ?_, ?_, ?_⟩
      · rw [Array.toList_push]
        exact rv.append (.cons rfl .nil)
      · rw [List.take_succ_eq_append_getElem lt]
        exact (rd.mor E2.mor).append (.cons pair .nil)
      · have nb : b ≠ s.heap.objs.size := fun y => by
          have e' : b = z ∨ b = TI ∨ b = TO ∨ b = i1 ∨ b = i2 ∨ b = S := by simpa using hb
          have lts : b < s.heap.objs.size := by
            rcases e' with q | q | q | q | q | q
            · rw [q]
              rcases zs with z0 | ⟨_, _, _, z0, _⟩
              · exact Heap.lt_size z0
              · exact Heap.lt_size z0
            · rw [q]; exact Heap.lt_size hTI
            · rw [q]; exact Heap.lt_size hTO
            · rw [q]; obtain ⟨_, z0, _⟩ := Src.rec_at t1; exact Heap.lt_size z0
            · rw [q]; obtain ⟨_, z0, _⟩ := Src.rec_at t2; exact Heap.lt_size z0
            · rw [q]; exact Heap.lt_size hS
          rw [y] at lts
          exact Nat.lt_irrefl _ lts
        obtain ⟨f0, f1, f2, f3, f4, f5⟩ := fp b hb
        exact ⟨by rw [upd_ne nb]; exact f0, f1, f2, f3, f4, f5⟩
      · obtain ⟨T, f, zh, hu⟩ := zh
        refine .inr ⟨T, f, ?_⟩
        rcases hu with ⟨u, hu⟩ | rfl
        · exact ⟨u, ok2 _ _ nS.1.symm zh, by rw [upd_ne (fun y => by rw [y, fresh] at hu; cases hu)]; exact hu⟩
        · exact ⟨_, ok2 _ _ nS.1.symm zh, upd_same⟩
      · exact ok2 _ _ nS.2.1.symm (hk TI _ D.TIz D.TITO D.TIi1 D.TIi2 hTI)
      · exact Src.itn_at (b1 _ _ q1') fun o e => ok2 _ _ nS.2.2.2.1.symm e
      · exact Src.itn_at (b2 _ _ q2') fun o e => ok2 _ _ nS.2.2.2.2.symm e
    have lt1 : i < us.length := by omega
    have lt2 : i < ws.length := by omega
    rcases zs with z0 | ⟨T, f, u, zh, hT⟩
    · refine wpAny_bind (wpAny_pyNext_zipD2_item D D1 D2 z0 hTI hTO s1 s2 lt1 lt2 fun x y h' tk p1 p2 z' O q1' q2' hT2 _ hk => ?_)
      exact rest x y h' tk p1 p2 q1' q2' hT2 ⟨_, _, z', .inr rfl⟩ ⟨_, _, O⟩ hk
    · obtain ⟨oT, eT⟩ := objOk_get (I.hok T u hT)
      refine wpAny_bind (next_zz_held D D1 D2 zh eT hTI s1 s2 lt1 lt2 fun x y h' tk p1 p2 z' q1' q2' hT2 hk => ?_)
      exact rest x y h' tk p1 p2 q1' q2' hT2 ⟨_, _, z', .inl ⟨u, hT⟩⟩ ⟨_, _, hk TO _ D.TOz D.Ti1 D.Ti2 hTO⟩ fun b o n1 _ n3 n4 e => hk b o n1 n3 n4 e
theorem call_lz {A : Around} {E : Value → Shared → Prop} {Q : Value → Shared → Prop} (hK : X.K = Z.K) (hh : A.handled = none) (I : Inv X pins σ H s) (G : Good Z Fo g m σ H) (h1 : Has Z g m.S.length q1 xs) (h2 : Has Z g m.S.length q2 ys)
    (D : ZipSep2 z TI TO i1 i2 (i1 :: q1.adr) (i2 :: q2.adr)) (n1 : i1 ∉ q1.adr) (n2 : i2 ∉ q2.adr) (hz : IsZip s.heap z TI TO .none) (hTI : IsTupOf2 s.heap TI (.ref i1) (.ref i2)) (hTO : IsTupOf2 s.heap TO .none .none) (t1 : q1.itn i1 0 s.heap) (t2 : q2.itn i2 0 s.heap) (fp : ∀ c ∈ [z, TI, TO, i1, i2], FpOk X pins H c)
    (sz : (zipF xs ys).length ≤ sizeLine) (hQ : ∀ S s', LzE X pins σ Z Fo g m (zipF xs ys) S s' → Q (.ref S) s') : wpAny (model X.prog X.w) A (call (.type "list") [.ref z]) Q E s := by
  have lts : ∀ c ∈ [z, TI, TO, i1, i2], c < s.heap.objs.size := fun c hc => by
    have e' : c = z ∨ c = TI ∨ c = TO ∨ c = i1 ∨ c = i2 := by simpa using hc
    rcases e' with q | q | q | q | q
    · rw [q]; exact Heap.lt_size hz
    · rw [q]; exact Heap.lt_size hTI
    · rw [q]; exact Heap.lt_size hTO
    · rw [q]; obtain ⟨_, z0, _⟩ := Src.rec_at t1; exact Heap.lt_size z0
    · rw [q]; obtain ⟨_, z0, _⟩ := Src.rec_at t2; exact Heap.lt_size z0
  have ne : ∀ c ∈ [z, TI, TO, i1, i2], s.heap.objs.size ≠ c := fun c hc => Nat.ne_of_gt (lts c hc)
  refine callType_codes (Q₁ := fun obj s₁ => obj = .ref s.heap.objs.size ∧ s₁ = { s with heap := s.heap.push { cls := .type "list", data := .seq #[] } }) F.called_list (F.typeCall_list_1 _) F.entry_list_init (code_list_new _ ⟨rfl, rfl⟩) fun obj s₁ ⟨e1, e2⟩ => ?_
  subst e1 e2
  have hS : (s.heap.push { cls := .type "list", data := .seq #[] }).get? s.heap.objs.size = some { cls := .type "list", data := .seq #[] } := Heap.get?_push_size _ rfl
  refine ⟨⟨_, hS, rfl⟩, F.args_list_init_2 _ _, ?_⟩
  show wpAny _ A.in1.in1 (do let old ← Builtin.List.listItems (.ref s.heap.objs.size); Builtin.List.listUpdate (.ref s.heap.objs.size) (fun _ => #[]); letGo old.toList.reverse; Builtin.List.listExtendWith (.ref s.heap.objs.size) (.ref z) .none) _ _ _
  refine wpAny_bind ?_
  unfold Builtin.List.listItems
  refine wpAny_bind (wpAny_seqItems hS rfl (wpAny_pure ?_))
  show wpAny _ A.in1.in1 (updateSeq s.heap.objs.size (fun _ => #[]) >>= fun _ => letGo (#[] : Array Value).toList.reverse >>= fun _ => Builtin.List.listExtendWith (.ref s.heap.objs.size) (.ref z) .none) _ _ _
  refine wpAny_bind (wpAny_updateSeq hS rfl ?_)
  have hS2 := Heap.get?_update_self (Obj.mapSeq (fun _ => (#[] : Array Value))) hS rfl
  refine wpAny_bind (wpAny_letGo ?_)
  unfold Builtin.List.listExtendWith
  have up : ∀ (h : Heap) (f : Obj → Obj), (∀ b o, s.heap.get? b = some o → h.get? b = some o) → ∀ b o, s.heap.get? b = some o → (h.update s.heap.objs.size f).get? b = some o := fun h f q b o e =>
    (Heap.get?_update_other _ _ (Ne.symm (Nat.ne_of_lt (Heap.lt_size e)))).trans (q b o e)
  have k1 : ∀ b o, s.heap.get? b = some o → (s.heap.push { cls := .type "list", data := .seq #[] }).get? b = some o := fun b o e => Heap.get?_push_of_some _ e
  have k2 := up _ (Obj.mapSeq (fun _ => (#[] : Array Value))) k1
  have ty : ∀ {h : Heap} {tk : Nat}, (∀ b o, s.heap.get? b = some o → h.get? b = some o) → Shared.TypeIs { s with heap := h, toks := tk } (.ref z) "zip" := fun {h tk} q => ⟨_, q _ _ hz, rfl⟩
  refine wpAny_bind (wpAny_typeOf (ty k2) ?_)
  have b1 : Builtin.List.listSameRef (.ref s.heap.objs.size) (.ref z) = false := by simp [Builtin.List.listSameRef, ne z (by simp)]
  have b2 : (Value.type "zip" == Value.type "list") = false := by decide
  have b3 : (Value.type "zip" == Value.type "tuple") = false := by decide
  simp only [b1, b2, b3, Bool.or_false, Bool.false_eq_true, if_false]
  refine wpAny_bind (wpAny_pyIter_zip (k2 _ _ hz) (wpAny_bind (wpAny_holding ?_)))
  unfold Builtin.List.listLengthHint
  refine wpAny_bind (wpAny_specialOf (ty k2) zip_nolen ?_)
  show wpAny _ A.in1.in1 (specialOf (Value.ref z) (Str.ofString "__length_hint__") >>= _) _ _ _
  refine wpAny_bind (wpAny_specialOf (ty k2) zip_nohint (wpAny_pure ?_))
  show wpAny _ A.in1.in1 (rule "list.extend.makes-room" >>= fun _ => Builtin.List.listTouch (.ref s.heap.objs.size) >>= fun _ => again (.builtin "list.extend.loop" ⟨[.ref s.heap.objs.size, .ref z, .none], []⟩)) _ _ _
  refine wpAny_bind (wpAny_rule (wpAny_bind ?_))
  show wpAny _ A.in1.in1 (updateSeq s.heap.objs.size (·.push .none) >>= fun _ => updateSeq s.heap.objs.size (·.pop)) _ _ _
  refine wpAny_bind (wpAny_updateSeq hS2 rfl ?_)
  have hS3 := Heap.get?_update_self (Obj.mapSeq (·.push Value.none)) hS2 rfl
  refine wpAny_updateSeq (hz := by seq_fits) hS3 rfl ?_
  have hS4 := Heap.get?_update_self (Obj.mapSeq (·.pop)) hS3 rfl
  have k4 := up _ (Obj.mapSeq (·.pop)) (up _ (Obj.mapSeq (·.push Value.none)) k2)
  refine wpAny_pure ⟨plainId_quiet F.plain_extend_loop _, ?_⟩
  have I4 := I.kept (t' := s.toks) k4
  refine lz_loop (A := A.in1) (q1 := q1) (q2 := q2) (X := X) (pins := pins) (σ := σ) (Z := Z) (Fo := Fo) (g := g) (m := m) hK hh h1 h2 D n1 n2 ⟨ne z (by simp), ne TI (by simp), ne TO (by simp), ne i1 (by simp), ne i2 (by simp)⟩ sz (fun s' e => ⟨rfl, hQ _ s' e⟩) _ 0 _ rfl (Nat.zero_le _)
    ⟨H, g, [], #[], _, I4, G, .rfl', .nil, .nil, hS4, fun b hb => ?_, .inl (k4 _ _ hz), ⟨_, _, k4 _ _ hTO⟩, k4 _ _ hTI, Src.itn_at t1 fun o e => k4 _ _ e, Src.itn_at t2 fun o e => k4 _ _ e⟩
  by_cases c : b = s.heap.objs.size
  · rw [c]
    exact I.fpOk (Nat.le_refl _) (I.hok.fresh (Nat.le_refl _))
  · refine fp b ?_
    have e' : b = z ∨ b = TI ∨ b = TO ∨ b = i1 ∨ b = i2 ∨ b = s.heap.objs.size := by simpa using hb
    rcases e' with y | y | y | y | y | y <;> first | (exact absurd y c) | simp [y]
end
def lzM (f : Mo (List D)) : Mo Ob := f.bind fun ds m => match zzD ds with
  | some l => if l.length ≤ sizeLine then .ok (.lst l) m else .no
  | none => .no
section
variable {X : Cx} {Z : Stc} {Fo : Hp} {W : WX} {a b : Expr} {f : Mo (List D)} {p p2 pos pos2 : Pos}
/-- list(zip(a, b)) -/
theorem de_lzip (hK : X.K = Z.K) (hc : X.calm = true) (hg : Gl X "zip") (hm : X.mg "zip" = none) (hgl : Gl X "list") (hml : X.mg "list" = none) (hs : starEach [a, b] X.env = (false, eval a X.env) :: starEach [b] X.env) (hpl : (backTo pos2 (starEach [b] X.env)).any (·.1) = false) (h : PA X [a, b] (tL Z Fo W f)) :
    PE X (.Call (.Name "list" p) [.Call (.Name "zip" p2) [a, b] [] pos2] [] pos) (tN Z Fo W (lzM f)) := by
  refine ⟨fun pins s σ H Q I ⟨g, m, G, hw⟩ => ?_⟩
  refine wpAny_Call_Name_kw (ld_blt I hgl hml (show bootBuiltins "list" = some (.type "list") by decide +kernel) (PyProof.Rows.callWith_type1 ?_ rfl rfl))
  refine Calls.spliced_cons (Call_ (ld_blt I hg hm boot_zip (PyProof.Rows.callWith_type1 (thn (h.run pos2 pins s σ H (fun us H1 => ∃ ds g' m', Good Z Fo g' m' σ H1 ∧ Ext Fo g m.S.length g' m'.S.length ∧ DVs Z g'.G g'.μ m'.S.length ds us ∧ Pg Z Fo W (RN Z Fo) g' m'.S.length σ Q (match zzD ds with
    | some l => if l.length ≤ sizeLine then .ok (.lst l) m' else .no
    | none => .no)) I ⟨g, m, G, (Pg.bind (R := RDs Z) hw).imp fun vs H' ⟨ds, g', m', G', E, r, _, q⟩ => ⟨ds, g', m', G', E, r, q⟩⟩) fun us s1 ⟨vs, H1, I1, r1, ds, g', m', G', E, rd, q⟩ => ?_) hs hpl)))
  cases e1 : zzD ds with
  | none => rw [e1] at q; exact q.elim
  | some l =>
    rw [e1] at q
    by_cases sz : l.length ≤ sizeLine
    case neg => simp only [if_neg sz] at q; exact q.elim
    simp only [if_pos sz] at q
    have two : ∃ d d2, ds = [d, d2] := by
      match ds, e1 with
      | [d, d2], _ => exact ⟨d, d2, rfl⟩
    obtain ⟨d, d2, rfl⟩ := two
    cases rd with
    | @cons _ v _ vs' x1 rd =>
    cases rd with
    | @cons _ w _ vs'' x2 rd =>
    cases rd
    cases r1 with
    | cons r r' =>
      cases r' with
      | cons r' rn =>
        cases rn
        simp only [zzD] at e1
        split at e1
        · rename_i xs ys ex ey
          cases e1
          obtain ⟨q1, hv, h1⟩ := src_at ex x1
          obtain ⟨q2, hv2, h2⟩ := src_at ey x2
          obtain ⟨us1, hu, _⟩ := h1 G' .rfl'
          obtain ⟨us2, hu2, _⟩ := h2 G' .rfl'
          refine zip_made I1 r r' hv hv2 (hK ▸ hu) (hK ▸ hu2) fun h' z TI TO i1 i2 D n1 n2 hz hTI hTO t1 t2 I2 fp => ?_
          refine Calls.spliced_nil ?_
          refine call_lz hK (I.ok.hd hc) I2 G' (fun G M => h1 G M) (fun G M => h2 G M) D n1 n2 hz hTI hTO t1 t2 fp sz fun S s2 ⟨H2, g2, vs, acc, c, I3, G3, E3, rv, rd, hS, fS⟩ => ?_
          have lv : vs.length ≤ sizeLine := by rw [← rd.length]; exact sz
          have new : ObjOk X.prog X.w (upd H2 S (.lst vs)) s2.heap S (.lst vs) := ⟨lv, acc.toList, c, rv, by rw [hS]⟩
          have f3 : g2.G S = none ∧ g2.ow S = none ∧ Fo S = none := G3.free fS.1
          exact ⟨.ref S, upd H2 S (.lst vs), Inv.put I3 fS new, rfl, q (.ref S) _ g2 (G3.fresh fS.1) E3 ⟨S, _, rfl, upd_same, ⟨vs, rfl, rd⟩, f3.1, f3.2.1, f3.2.2⟩⟩
        · cases e1
end
end LB

namespace LB
open PySem L2 PyProof.Rows

/-! ### [e for t in src if c] -/
def wipeR (vs : List Nat) (ρ : List Sl) : List Sl := vs.foldl (fun ρ i => ρ.set i .un) ρ
def restR (vs : List Nat) (ρ0 ρ : List Sl) : List Sl := vs.foldl (fun ρ i => match ρ0[i]? with | some s => ρ.set i s | none => ρ) ρ
def Sl.isOwn : Sl → Bool
  | .own _ => true
  | _ => false
def mayWipe (vs : List Nat) (ρ : List Sl) : Bool := vs.all fun i => match ρ[i]? with | some s => !s.isOwn | none => false
def lcL (t : Tg) (vs : List Nat) (c : Mo Bool) (e : Mo D) : List D → List D → Mo (List D)
  | acc, [] => .ret acc
  | acc, d :: ds => fun m => match bindT t d (wipeR vs m.ρ) with
    | none => .no
    | some ρ => match c { m with ρ := ρ } with
      | .ok true m => match e m with
        | .ok y m => if acc.length < sizeLine then lcL t vs c e (acc ++ [y]) ds m else .no
        | _ => .no
      | .ok false m => lcL t vs c e acc ds m
      | _ => .no
def lcM (src : Mo (List D)) (t : Tg) (vs : List Nat) (c : Mo Bool) (e : Mo D) : Mo Ob := src.bind fun ds m =>
  if mayWipe vs m.ρ = true ∧ (∀ j ∈ t.slots, j ∈ vs) then (lcL t vs c e [] ds m).bind fun out m2 => .ok (.lst out) { m2 with ρ := restR vs m.ρ m2.ρ } else .no

theorem wipeR_len : ∀ {vs : List Nat} {ρ : List Sl}, (wipeR vs ρ).length = ρ.length
  | [], _ => rfl
  | v :: vs, ρ => by
    show (wipeR vs (ρ.set v .un)).length = _
    rw [wipeR_len, List.length_set]
theorem wipeR_at : ∀ {vs : List Nat} {ρ : List Sl} {j : Nat} {s : Sl}, (wipeR vs ρ)[j]? = some s → s = .un ∨ (j ∉ vs ∧ ρ[j]? = some s)
  | [], ρ, j, s, h => .inr ⟨by simp, h⟩
  | v :: vs, ρ, j, s, h => by
    have h : (wipeR vs (ρ.set v .un))[j]? = some s := h
    rcases wipeR_at h with h | ⟨n, h⟩
    · exact .inl h
    · by_cases z : v = j
      · subst z
        have lt : v < ρ.length := by
          have q := (List.getElem?_eq_some_iff.mp h).1
          simpa using q
        rw [List.getElem?_set_self lt] at h
        exact .inl (Option.some.inj h).symm
      · rw [List.getElem?_set_ne z] at h
        exact .inr ⟨by simp only [List.mem_cons, not_or]; exact ⟨fun e => z e.symm, n⟩, h⟩
theorem restR_len : ∀ {vs : List Nat} {ρ0 ρ : List Sl}, (restR vs ρ0 ρ).length = ρ.length
  | [], _, _ => rfl
  | v :: vs, ρ0, ρ => by
    show (restR vs ρ0 (match ρ0[v]? with | some s => ρ.set v s | none => ρ)).length = _
    rw [restR_len]
    cases ρ0[v]? with
    | none => rfl
    | some s => exact List.length_set
theorem restR_at : ∀ {vs : List Nat} {ρ0 ρ : List Sl} {j : Nat} {s : Sl}, mayWipe vs ρ0 = true → (restR vs ρ0 ρ)[j]? = some s → (j ∈ vs ∧ ρ0[j]? = some s) ∨ (j ∉ vs ∧ ρ[j]? = some s)
  | [], _, ρ, j, s, _, h => .inr ⟨by simp, h⟩
  | v :: vs, ρ0, ρ, j, s, mw, h => by
    have h : (restR vs ρ0 (match ρ0[v]? with | some s => ρ.set v s | none => ρ))[j]? = some s := h
    have mw' : (match ρ0[v]? with | some s => !s.isOwn | none => false) = true ∧ mayWipe vs ρ0 = true := by
      unfold mayWipe at mw ⊢
      simpa only [List.all_cons, Bool.and_eq_true] using mw
    cases e : ρ0[v]? with
    | none => rw [e] at mw'; exact absurd mw'.1 (by simp)
    | some s0 =>
      rw [e] at h
      rcases restR_at mw'.2 h with ⟨i, h⟩ | ⟨n, h⟩
      · exact .inl ⟨List.mem_cons_of_mem _ i, h⟩
      · have h : (ρ.set v s0)[j]? = some s := h
        by_cases z : v = j
        · subst z
          have lt : v < ρ.length := by
            have q := (List.getElem?_eq_some_iff.mp h).1
            simpa using q
          rw [List.getElem?_set_self lt] at h
          exact .inl ⟨List.mem_cons_self, by rw [e]; exact h⟩
        · rw [List.getElem?_set_ne z] at h
          exact .inr ⟨by simp only [List.mem_cons, not_or]; exact ⟨fun e => z e.symm, n⟩, h⟩
theorem wipe_at (σ : L2.St) {j : Nat} : ∀ {vs : List Nat}, j ∉ vs → (wipe σ vs)[j]? = σ[j]?
  | [], _ => rfl
  | v :: vs, h => by
    rw [List.mem_cons, not_or] at h
    show ((wipe σ vs).set v none)[j]? = _
    rw [List.getElem?_set_ne (fun z => h.1 z.symm), wipe_at σ h.2]
theorem wipe_eq {σ σ' : L2.St} {vs : List Nat} (hl : σ'.length = σ.length) (h : ∀ j, j ∉ vs → σ'[j]? = σ[j]?) : wipe σ' vs = wipe σ vs := by
  induction vs generalizing σ σ' with
  | nil => exact List.ext_getElem? fun j => h j (by simp)
  | cons v vs ih =>
    refine List.ext_getElem? fun j => ?_
    show ((wipe σ' vs).set v none)[j]? = ((wipe σ vs).set v none)[j]?
    have l1 : (wipe σ' vs).length = (wipe σ vs).length := by rw [wipe_length, wipe_length, hl]
    by_cases z : v = j
    · subst z
      by_cases lt : v < (wipe σ vs).length
      · rw [List.getElem?_set_self lt, List.getElem?_set_self (by rw [l1]; exact lt)]
      · rw [List.getElem?_eq_none (by simp only [List.length_set]; rw [l1]; exact Nat.le_of_not_lt lt), List.getElem?_eq_none (by simpa using lt)]
    · rw [List.getElem?_set_ne z, List.getElem?_set_ne z]
      by_cases w : j ∈ vs
      · have key : ∀ (τ : L2.St) {ws : List Nat}, j ∈ ws → (wipe τ ws)[j]? = if j < τ.length then some none else none := fun τ {ws} hw => by
          induction ws with
          | nil => cases hw
          | cons u us ihu =>
            show ((wipe τ us).set u none)[j]? = _
            by_cases y : u = j
            · subst y
              by_cases lt : u < τ.length
              · rw [List.getElem?_set_self (by rw [wipe_length]; exact lt), if_pos lt]
              · rw [List.getElem?_eq_none (by simp only [List.length_set]; rw [wipe_length]; exact Nat.le_of_not_lt lt), if_neg lt]
            · rw [List.getElem?_set_ne y]
              rcases List.mem_cons.mp hw with q | q
              · exact absurd q.symm y
              · exact ihu q
        rw [key σ' w, key σ w, hl]
      · rw [wipe_at σ' w, wipe_at σ w]
        exact h j (by rw [List.mem_cons, not_or]; exact ⟨fun y => z y.symm, w⟩)
section
variable {Z : Stc} {Fo : Hp} {W : WX} {g g' : Gh} {m m' : Mst} {σ σ' : L2.St} {H : Hp} {N N' : Nat} {X : Cx} {vs : List Nat}
theorem Good.wiped (G : Good Z Fo g m σ' H) (e : wipe σ' vs = wipe σ vs) : Good Z Fo g { m with ρ := wipeR vs m.ρ } (wipe σ vs) H := by
  refine ⟨G.s, by show (wipeR vs m.ρ).length = _; rw [wipeR_len, G.len, ← e, wipe_length], fun j s q => ?_⟩
  rcases wipeR_at q with rfl | ⟨n, q⟩
  · trivial
  · have x := G.sl j s q
    have y : (wipe σ vs)[j]? = σ'[j]? := by rw [← e, wipe_at σ' n]
    cases s with
    | un => trivial
    | va d => obtain ⟨v, q1, q2⟩ := x; exact ⟨v, y.trans q1, q2⟩
    | own o => obtain ⟨a, h, q1, q2⟩ := x; exact ⟨a, h, y.trans q1, q2⟩
theorem Good.rested {g0 : Gh} {m0 : Mst} {H0 : Hp} {Fo0 : Hp} (G0 : Good Z Fo0 g0 m0 σ H0) (mw : mayWipe vs m0.ρ = true) (M : Mor g0.G g.G g0.μ g.μ m0.S.length m.S.length) (G : Good Z Fo g m σ' H) (e : wipe σ' vs = wipe σ vs) : Good Z Fo g { m with ρ := restR vs m0.ρ m.ρ } σ H := by
  refine ⟨G.s, by show (restR vs m0.ρ m.ρ).length = _; rw [restR_len, G.len, ← wipe_length σ vs, ← e, wipe_length], fun j s q => ?_⟩
  rcases restR_at mw q with ⟨i, q⟩ | ⟨n, q⟩
  · have x := G0.sl j s q
    have no : s.isOwn = false := by
      unfold mayWipe at mw
      have z := List.all_eq_true.mp mw j i
      rw [q] at z
      simpa using z
    cases s with
    | un => trivial
    | va d => obtain ⟨v, q1, q2⟩ := x; exact ⟨v, q1, q2.mor M⟩
    | own o => cases no
  · have x := G.sl j s q
    have y : σ[j]? = σ'[j]? := by rw [← wipe_at σ n, ← e, wipe_at σ' n]
    cases s with
    | un => trivial
    | va d => obtain ⟨v, q1, q2⟩ := x; exact ⟨v, y.trans q1, q2⟩
    | own o => obtain ⟨a, h, q1, q2⟩ := x; exact ⟨a, h, y.trans q1, q2⟩
theorem Ext.chg {p : Addr} {o o' : HO} (E : Ext (upd Fo p o) g N g' N') : Ext (upd Fo p o') g N g' N' := ⟨E.mor, fun a u h => (E.new a u h).imp_right fun z => by
  by_cases y : a = p
  · subst y; rw [upd_same] at z; cases z
  · rw [upd_ne y] at z ⊢; exact z⟩
theorem Good.grow {p : Addr} {o : HO} (G : Good Z Fo g m σ H) (e : H p = some o) (w : g.ow p = none) : Good Z (upd Fo p o) g m σ H := by
  refine ⟨⟨G.s.gh, fun a u q => ?_, G.s.st, fun a u q => ?_⟩, G.len, G.sl⟩
  · by_cases y : a = p
    · subst y; rw [upd_same] at q; rw [e]; exact q
    · rw [upd_ne y] at q; exact G.s.fo a u q
  · obtain ⟨y1, y2, y3⟩ := G.s.ow a u q
    exact ⟨y1, by rw [upd_ne (fun z => by rw [z, w] at q; cases q)]; exact y2, y3⟩

def gTx (Z : Stc) (t : Tg) : TG := fun v σ H Q => ∃ Fo, gT Z Fo t v σ H Q
theorem pg_x {tg : Expr} {t : Tg} (h : ∀ Fo, PG X tg (gT Z Fo t)) : PG X tg (gTx Z t) := ⟨fun pins s σ H v u Q I r ⟨Fo, k⟩ => (h Fo).run pins s σ H v u Q I r k⟩
abbrev noX : WX := fun _ _ _ _ => False
theorem Pg.nox {α β : Type} {R : Gh → Nat → Hp → α → β → Prop} {Q : β → Hp → Prop} {r : Res α} {a : α} {m : Mst} (e : r = .ok a m) (h : ∀ v H g', Good Z Fo g' m σ H → Ext Fo g N g' m.S.length → R g' m.S.length H a v → Q v H) : Pg Z Fo noX R g N σ Q r := by rw [e]; exact h
theorem rd_lc {wi : TI} {src : Mo (List D)} {t : Tg} {c : Mo Bool} {e : Mo D} {Q : V → Hp → Prop} (hw : ∀ σ H R, tI Z Fo W src σ H R → wi σ H R) (h : tN Z Fo W (lcM src t vs c e) σ H Q) : tLc wi (gTx Z t) (tTx Z noX c) (tEx Z noX e) vs σ H Q := by
  obtain ⟨g, m, G, h⟩ := h
  refine hw _ _ _ ⟨g, m, G, (Pg.bind (R := RI Z) h).imp fun J H1 ⟨ds, g1, m1, G1, E1, hd, _, q⟩ D hD => ?_⟩
  by_cases mw : mayWipe vs m1.ρ = true ∧ (∀ j ∈ t.slots, j ∈ vs)
  case neg => rw [if_neg mw] at q; exact q.elim
  rw [if_pos mw] at q
  obtain ⟨mw, sub⟩ := mw
  obtain ⟨f1, f2, f3⟩ := G1.free hD
  -- the state at a turn
  let Sta : Nat → Hp → Prop := fun i H => ∃ g' m' σ' acc av, Good Z (upd Fo D (.lst av)) g' m' σ' H ∧ wipe σ' vs = wipe σ vs ∧ Ext (upd Fo D (.lst [])) g1 m1.S.length g' m'.S.length ∧ DVs Z g'.G g'.μ m'.S.length acc av ∧
    Pg Z Fo W (RN Z Fo) g1 m1.S.length σ Q ((lcL t vs c e acc (ds.drop i) m').bind fun out m2 => .ok (.lst out) { m2 with ρ := restR vs m1.ρ m2.ρ })
  refine ⟨fun i n H => n = ds.length - i ∧ i ≤ ds.length ∧ Sta i H, ⟨ds.length, by simp, Nat.zero_le _, g1, m1, σ, [], [], G1.under hD, rfl, .rfl', .nil, by simpa using q⟩, ?_⟩
  rintro i n H2 ⟨rfl, le, g2, m2, σ2, acc, av, G2, w2, E2, rs, q2⟩
  by_cases lt : i < ds.length
  · obtain ⟨go, yl⟩ := hd.go _ i g2 m2 σ2 H2 ds[i] G2 E2.mor (List.getElem?_eq_getElem lt)
    obtain ⟨_, yl⟩ := hd.go _ i g2 _ _ H2 ds[i] (G2.wiped w2) E2.mor (List.getElem?_eq_getElem lt)
    rw [List.drop_eq_getElem_cons lt] at q2
    simp only [lcL] at q2
    refine .inr ⟨go, Sta (i + 1), fun H' s => ⟨ds.length - (i + 1), by omega, rfl, lt, s⟩, fun x H3 y => ?_⟩
    obtain ⟨g3, G3, E3, dv⟩ := yl x H3 y
    cases e1 : bindT t ds[i] (wipeR vs m2.ρ) with
    | none => simp only [e1] at q2; exact q2.elim
    | some ρ =>
      simp only [e1] at q2
      refine ⟨_, g3, _, ds[i], ρ, G3, dv, e1, fun σ4 G4 k4 l4 => ?_⟩
      have w4 : wipe σ4 vs = wipe σ vs := by
        have z : wipe σ4 vs = wipe (wipe σ vs) vs := wipe_eq l4 fun j hj => k4 j fun z => hj (sub j z)
        rw [z]
        exact wipe_eq (wipe_length σ vs) fun j hj => wipe_at σ hj
      refine ⟨w4, _, g3, _, G4, ?_⟩
      cases e2 : c { m2 with ρ := ρ } with
      | no => simp only [e2] at q2; exact q2.elim
      | exc x m3 => simp only [e2] at q2; exact q2.elim
      | ok b m3 =>
        simp only [e2] at q2
        refine Pg.nox (R := RB) rfl fun b' H5 g5 G5 E5 eb => ?_
        have eb : b = b' := eb
        subst eb
        have E5' : Ext (upd Fo D (.lst [])) g1 m1.S.length g5 m3.S.length := (E2.trans E3.chg).trans E5.chg
        cases b with
        | false => exact ⟨g5, m3, σ4, acc, av, G5, w4, E5', rs.mor ((E3.trans E5).mor), q2⟩
        | true =>
          simp only [if_true]
          cases e3 : e m3 with
          | no => simp only [e3] at q2; exact q2.elim
          | exc x m4 => simp only [e3] at q2; exact q2.elim
          | ok y m4 =>
            simp only [e3] at q2
            refine ⟨_, g5, m3, G5, Pg.nox (R := RD Z) e3 fun yv H6 g6 G6 E6 ry => ?_⟩
            have hp : H6 D = some (.lst av) := G6.s.fo D _ upd_same
            have al : acc.length = av.length := rs.length
            by_cases sz : acc.length < sizeLine
            · rw [if_pos sz] at q2
              have E6' : Ext (upd Fo D (.lst [])) g1 m1.S.length g6 m4.S.length := E5'.trans E6.chg
              obtain ⟨G7, gp, ow⟩ := G6.lift f3 (E6'.chg) f1 (o' := .lst (av ++ [yv]))
              refine ⟨av, hp, by omega, g6, m4, σ4, acc ++ [y], av ++ [yv], G7.grow upd_same ow, w4, E6', ?_, q2⟩
              exact (rs.mor ((E3.trans E5).trans E6).mor).append (.cons ry .nil)
            · rw [if_neg sz] at q2; exact q2.elim
  · have e2 : i = ds.length := by omega
    subst e2
    rw [List.drop_length] at q2
    refine .inl ⟨hd.stop _ g2 m2 σ2 H2 G2 E2.mor, ?_⟩
    have hp : H2 D = some (.lst av) := G2.s.fo D _ upd_same
    have gw : g2.G D = none ∧ g2.ow D = none := (G2.lift f3 E2.chg f1 (o' := .lst av)).2
    exact q2 (.ref D) H2 g2 (G1.rested mw E2.mor (G2.weak (sub_upd f3)) w2) (E2.weak (sub_upd f3)) ⟨D, _, rfl, hp, ⟨av, rfl, rs⟩, gw.1, gw.2, f3⟩
section
variable {elt tg iter : Expr} {ifs : List Expr} {scope : Scope} {own : List (Str × Nat)} {pos : Pos} {src : Mo (List D)} {t : Tg} {c : Mo Bool} {e : Mo D}
theorem de_lc (hc : X.calm = true) (hN : X.N.Nodup) (hi : PI X tg iter (tI Z Fo W src)) (ok : BlkOk X.N X.env.scope scope own)
    (hg : ∀ (s : Shared) (H : Hp) (C : Addr) (cl : List (Str × Addr)) (fp : List Addr) (Fo : Hp), PG (X.blk s H scope (compEnvC scope cl C X.env) fp) tg (gT Z Fo t)) (ht : ∀ (s : Shared) (H : Hp) (C : Addr) (cl : List (Str × Addr)) (fp : List Addr), PTs (X.blk s H scope (compEnvC scope cl C X.env) fp) ifs (tTx Z noX c))
    (he : ∀ (s : Shared) (H : Hp) (C : Addr) (cl : List (Str × Addr)) (fp : List Addr) (Fo : Hp), PE (X.blk s H scope (compEnvC scope cl C X.env) fp) elt (tE Z Fo noX e)) (hs : ∀ x, foldedSetIterable iter X.env x = pure x) :
    PE X (.ListComp elt [⟨tg, iter, ifs, 0⟩] scope pos) (tN Z Fo W (lcM src t (own.map (·.2)) c e)) :=
  (pe_lc hc hN hi ok (fun s H C cl fp => pg_x (hg s H C cl fp)) ht (fun s H C cl fp => pe_x (he s H C cl fp)) hs).imp fun _ _ _ h => rd_lc (fun _ _ _ h => h) h
theorem ds_setLc {i : Nat} {y : Str} {py spos : Pos} (hc : X.calm = true) (hN : X.N.Nodup) (hy : X.N[i]? = some y) (hyl : X.env.scope.names.lookup y = some .local)
    (hsw : swapsWith (.ListComp elt [⟨tg, iter, ifs, 0⟩] scope pos) (some (.Name y py)) spos.line X.env = pure true) (hi : PI X tg iter (tI Z Fo W src)) (ok : BlkOk X.N X.env.scope scope own)
    (hg : ∀ (s : Shared) (H : Hp) (C : Addr) (cl : List (Str × Addr)) (fp : List Addr) (Fo : Hp), PG (X.blk s H scope (compEnvC scope cl C X.env) fp) tg (gT Z Fo t)) (ht : ∀ (s : Shared) (H : Hp) (C : Addr) (cl : List (Str × Addr)) (fp : List Addr), PTs (X.blk s H scope (compEnvC scope cl C X.env) fp) ifs (tTx Z noX c))
    (he : ∀ (s : Shared) (H : Hp) (C : Addr) (cl : List (Str × Addr)) (fp : List Addr) (Fo : Hp), PE (X.blk s H scope (compEnvC scope cl C X.env) fp) elt (tE Z Fo noX e)) (hs : ∀ x, foldedSetIterable iter X.env x = pure x) :
    PS X (.Assign [.Name y py] (.ListComp elt [⟨tg, iter, ifs, 0⟩] scope pos) spos) (tS Z Fo W (ownM i (lcM src t (own.map (·.2)) c e))) :=
  ds_own (ps_imp (ps_setLc hc hN hy hyl hsw hi ok (fun s H C cl fp => pg_x (hg s H C cl fp)) ht (fun s H C cl fp => pe_x (he s H C cl fp)) hs) fun E σ H h => rd_lc (fun _ _ _ h => h) h)
end
end
end LB

namespace LB
open PySem L2 PyProof.Rows

/-! ### what a function leaves behind in the store -/
mutual
def D.low (n : Nat) : D → Bool
  | .ref k => decide (k < n)
  | .tup ds => D.lows n ds
  | .ktp ds => D.lows n ds
  | .lst ds => D.lows n ds
  | .dct _ kvs => D.lowk n kvs
  | .kdc kvs => D.lowe n kvs
  | _ => true
def D.lows (n : Nat) : List D → Bool
  | [] => true
  | d :: r => D.low n d && D.lows n r
def D.lowk (n : Nat) : List (D × D) → Bool
  | [] => true
  | (_, d) :: r => D.low n d && D.lowk n r
def D.lowe (n : Nat) : List (Str × D) → Bool
  | [] => true
  | (_, d) :: r => D.low n d && D.lowe n r
end
def Ob.low (n : Nat) : Ob → Bool
  | .lst ds => D.lows n ds
  | .dct _ kvs => D.lowk n kvs
def SO.low (n : Nat) : SO → Bool
  | .ob o => o.low n
  | .ins _ fs => D.lowe n fs
/-- the store as the caller finds it: what it cannot reach is dropped -/
def trunc (n : Nat) (ds : List D) (S : List SO) : List SO := if ((S.take n).all (SO.low n) && D.lows n ds) = true then S.take n else S
section
variable {Z : Stc} {G : Hp} {μ : Nat → Addr} {N n : Nat}
mutual
theorem DV.lowTo (le : n ≤ N) : ∀ {d : D} {v : V}, DV Z G μ N d v → d.low n = true → DV Z G μ n d v
  | _, _, .non, _ => .non
  | _, _, .bl b, _ => .bl b
  | _, _, .int i, _ => .int i
  | _, _, .str x, _ => .str x
  | _, _, .tup h r, b => .tup h (DVs.lowTo le r (by simpa [D.low] using b))
  | _, _, .ktp h r, b => .ktp h (DVs.lowTo le r (by simpa [D.low] using b))
  | _, _, .lst h r, b => .lst h (DVs.lowTo le r (by simpa [D.low] using b))
  | _, _, .dk h r, b => .dk h (DVk.lowTo le r (by simpa [D.low] using b))
  | _, _, .dt h r, b => .dt h (DVt.lowTo le r (by simpa [D.low] using b))
  | _, _, .kd h r, b => .kd h (DVe.lowTo le r (by simpa [D.low] using b))
  | _, _, .ref h, b => .ref (by simpa [D.low] using b)
  | _, _, .glo h, _ => .glo h
theorem DVs.lowTo (le : n ≤ N) : ∀ {d : List D} {v : List V}, DVs Z G μ N d v → D.lows n d = true → DVs Z G μ n d v
  | _, _, .nil, _ => .nil
  | _, _, .cons h r, b => by
    rw [D.lows, Bool.and_eq_true] at b
    exact .cons (DV.lowTo le h b.1) (DVs.lowTo le r b.2)
theorem DVk.lowTo (le : n ≤ N) : ∀ {d : List (D × D)} {v : List (Key × V)}, DVk Z G μ N d v → D.lowk n d = true → DVk Z G μ n d v
  | _, _, .nil, _ => .nil
  | _, _, .cons k h r, b => by
    rw [D.lowk, Bool.and_eq_true] at b
    exact .cons k (DV.lowTo le h b.1) (DVk.lowTo le r b.2)
theorem DVt.lowTo (le : n ≤ N) : ∀ {d : List (D × D)} {v : List (List Key × V)}, DVt Z G μ N d v → D.lowk n d = true → DVt Z G μ n d v
  | _, _, .nil, _ => .nil
  | _, _, .cons k h r, b => by
    rw [D.lowk, Bool.and_eq_true] at b
    exact .cons k (DV.lowTo le h b.1) (DVt.lowTo le r b.2)
theorem DVe.lowTo (le : n ≤ N) : ∀ {d : List (Str × D)} {v : List DictEntry}, DVe Z G μ N d v → D.lowe n d = true → DVe Z G μ n d v
  | _, _, .nil, _ => .nil
  | _, _, .cons k h r, b => by
    rw [D.lowe, Bool.and_eq_true] at b
    exact .cons k (DV.lowTo le h b.1) (DVe.lowTo le r b.2)
end
theorem FsR.lowTo {g : Gh} (le : n ≤ N) : ∀ {fs : List (Str × D)} {fv : List (Str × V)}, FsR Z g N fs fv → D.lowe n fs = true → FsR Z g n fs fv
  | [], [], _, _ => trivial
  | (_, _) :: _, (_, _) :: _, ⟨h1, h2, h3⟩, b => by
    rw [D.lowe, Bool.and_eq_true] at b
    exact ⟨h1, h2.lowTo le b.1, FsR.lowTo le h3 b.2⟩
  | [], _ :: _, h, _ => h.elim
  | _ :: _, [], h, _ => h.elim
theorem FsR.same {g g' : Gh} (eG : g'.G = g.G) (eμ : g'.μ = g.μ) : ∀ {fs : List (Str × D)} {fv : List (Str × V)}, FsR Z g N fs fv → FsR Z g' N fs fv
  | [], [], _ => trivial
  | (_, _) :: _, (_, _) :: _, ⟨h1, h2, h3⟩ => ⟨h1, by rw [eG, eμ]; exact h2, FsR.same eG eμ h3⟩
  | [], _ :: _, h => h.elim
  | _ :: _, [], h => h.elim
theorem ObR.lowTo {g : Gh} {o : Ob} {h : HO} (le : n ≤ N) (x : ObR Z g N o h) (b : o.low n = true) : ObR Z g n o h := by
  cases o with
  | lst ds => obtain ⟨vs, rfl, r⟩ := x; exact ⟨vs, rfl, r.lowTo le b⟩
  | dct t kvs => cases t <;> (obtain ⟨vs, rfl, r⟩ := x; exact ⟨vs, rfl, r.lowTo le b⟩)
end
section
variable {Z : Stc} {Fo Fo' : Hp} {W : WX} {g g' : Gh} {m m' : Mst} {σ : L2.St} {H H' : Hp} {N n : Nat} {X : Cx} {S S' : List SO}
/-- the store's end dropped -/
theorem GoodS.cut (G : GoodS Z Fo g S H) (le : n ≤ S.length) (b : (S.take n).all (SO.low n) = true) : GoodS Z Fo { g with ow := fun a => match g.ow a with | some (.lo k) => if k < n then some (.lo k) else none | some (.di k) => if k < n then some (.di k) else none | w => w } (S.take n) H := by
  have ln : (S.take n).length = n := by rw [List.length_take]; omega
  have lo : ∀ {a : Addr} {k : Nat}, g.ow a = some (.lo k) → k < n → (match g.ow a with | some (.lo k) => if k < n then some (Ow.lo k) else none | some (.di k) => if k < n then some (.di k) else none | w => w) = some (.lo k) := fun {a k} e h => by rw [e]; exact if_pos h
  have di : ∀ {a : Addr} {k : Nat}, g.ow a = some (.di k) → k < n → (match g.ow a with | some (.lo k) => if k < n then some (Ow.lo k) else none | some (.di k) => if k < n then some (.di k) else none | w => w) = some (.di k) := fun {a k} e h => by rw [e]; exact if_pos h
  refine ⟨G.gh, G.fo, fun k o e => ?_, fun a w e => ?_⟩
  · have kl : k < n := by have q := (List.getElem?_eq_some_iff.mp e).1; omega
    have e' : S[k]? = some o := by rw [List.getElem?_take_of_lt kl] at e; exact e
    have ob : o.low n = true := List.all_eq_true.mp b o (List.mem_of_getElem? e)
    have x := G.st k o e'
    rw [ln]
    cases o with
    | ob o => obtain ⟨h, x1, x2, x3⟩ := x; exact ⟨h, lo x1 kl, x2, x3.lowTo le ob⟩
    | ins c fs => obtain ⟨C, dx, fs', x1, x2, x3, x4, x5, x6⟩ := x; exact ⟨C, dx, fs', lo x1 kl, x2, x3, x4, di x5 kl, by refine FsR.same (g := g) ?_ ?_ (FsR.lowTo le x6 ob) <;> rfl⟩
  · have e' : (match g.ow a with | some (.lo k) => if k < n then some (Ow.lo k) else none | some (.di k) => if k < n then some (.di k) else none | w => w) = some w := e
    cases q : g.ow a with
    | none => rw [q] at e'; cases e'
    | some u => exact G.ow a u q
/-- what a function is asked: its end, an exception's -/
def PgF (Z : Stc) (Fo : Hp) (E : XK) (g : Gh) (n : Nat) (Q : V → Hp → Prop) : Res D → Prop
  | .ok d m => ∀ v H g', GoodS Z Fo g' m.S H → Ext Fo g n g' m.S.length → DV Z g'.G g'.μ m.S.length d v → Q v H
  | .exc x m => ∀ cls dd H g', GoodS Z Fo g' m.S H → Ext Fo g n g' m.S.length → ExcR Z g' m.S.length x cls dd H → E cls dd H
  | .no => False
abbrev Fn := List D → Mo D
def spF (Z : Stc) (k : Nat) (F : Fn) : Sp := fun vs H Q E => ∃ Fo g S ds, vs.length = k ∧ GoodS Z Fo g S H ∧ DVs Z g.G g.μ S.length ds vs ∧ PgF Z Fo E g S.length Q (F ds ⟨[], S⟩)
/-- the same, called from a body -/
def callM (F : Fn) (f : Mo (List D)) : Mo D := f.bind fun ds m => match F ds ⟨[], m.S⟩ with
  | .ok d m' => .ok d ⟨m.ρ, m'.S⟩
  | .exc x m' => .exc x ⟨m.ρ, m'.S⟩
  | .no => .no
/-- what the body's own slots hold is not the callee's -/
def Gh.lend (g : Gh) : Gh := { g with ow := fun a => match g.ow a with | some (.sl _) => none | w => w }
def Gh.back (g g' : Gh) : Gh := { g' with ow := fun a => match g.ow a with | some (.sl i) => some (.sl i) | _ => g'.ow a }
open Classical in
noncomputable def lendH (g : Gh) (Fo H : Hp) : Hp := fun a => if (∃ i, g.ow a = some (.sl i)) then H a else Fo a
theorem GoodS.lend (G : GoodS Z Fo g S H) : GoodS Z (lendH g Fo H) g.lend S H := by
  have ow : ∀ {a : Addr} {w : Ow}, g.lend.ow a = some w → g.ow a = some w ∧ ∀ i, w ≠ .sl i := fun {a w} e => by
    have e' : (match g.ow a with | some (.sl _) => none | w => w) = some w := e
    cases q : g.ow a with
    | none => rw [q] at e'; cases e'
    | some u =>
      rw [q] at e'
      cases u with
      | sl i => cases e'
      | lo k => cases e'; exact ⟨rfl, fun _ z => nomatch z⟩
      | di k => cases e'; exact ⟨rfl, fun _ z => nomatch z⟩
  have lo : ∀ {a : Addr} {k : Nat}, g.ow a = some (.lo k) → g.lend.ow a = some (.lo k) := fun {a k} e => by
    show (match g.ow a with | some (.sl _) => none | w => w) = _
    rw [e]
  have di : ∀ {a : Addr} {k : Nat}, g.ow a = some (.di k) → g.lend.ow a = some (.di k) := fun {a k} e => by
    show (match g.ow a with | some (.sl _) => none | w => w) = _
    rw [e]
  refine ⟨G.gh, fun a o e => ?_, fun k o e => ?_, fun a w e => ?_⟩
  · unfold lendH at e
    split at e
    · exact e
    · exact G.fo a o e
  · have x := G.st k o e
    cases o with
    | ob o => obtain ⟨h, x1, x2, x3⟩ := x; exact ⟨h, lo x1, x2, x3⟩
    | ins c fs => obtain ⟨C, dx, fs', x1, x2, x3, x4, x5, x6⟩ := x; exact ⟨C, dx, fs', lo x1, x2, x3, x4, di x5, FsR.same (g := g) (g' := g.lend) rfl rfl x6⟩
  · obtain ⟨e1, e2⟩ := ow e
    obtain ⟨y1, y2, y3⟩ := G.ow a w e1
    refine ⟨y1, ?_, y3⟩
    unfold lendH
    rw [if_neg (fun ⟨i, z⟩ => by rw [z] at e1; cases e1; exact e2 i rfl)]
    exact y2
theorem Good.back {m2 : Mst} (G : Good Z Fo g m σ H) (G' : GoodS Z (lendH g Fo H) g' m2.S H') (E : Ext (lendH g Fo H) g.lend m.S.length g' m2.S.length) :
    Good Z Fo (g.back g') ⟨m.ρ, m2.S⟩ σ H' ∧ Ext Fo g m.S.length (g.back g') m2.S.length ∧ (∀ a, (∀ i, g.ow a ≠ some (.sl i)) → (g.back g').ow a = g'.ow a) := by
  have lH : ∀ {a : Addr} {i : Nat}, g.ow a = some (.sl i) → ∃ o, H a = some o ∧ lendH g Fo H a = some o := fun {a i} e => by
    obtain ⟨_, _, o, h⟩ := G.s.ow a _ e
    refine ⟨o, h, ?_⟩
    unfold lendH
    rw [if_pos ⟨i, e⟩]
    exact h
  have nsl : ∀ {a : Addr} {w : Ow}, g'.ow a = some w → ∀ i, g.ow a ≠ some (.sl i) := fun {a w} e i z => by
    obtain ⟨o, _, h⟩ := lH z
    have q := (G'.ow a w e).2.1
    rw [h] at q; cases q
  have bk : ∀ {a : Addr}, (∀ i, g.ow a ≠ some (.sl i)) → (g.back g').ow a = g'.ow a := fun {a} n => by
    show (match g.ow a with | some (.sl i) => some (Ow.sl i) | _ => g'.ow a) = _
    cases q : g.ow a with
    | none => rfl
    | some u => cases u with
      | sl i => exact absurd q (n i)
      | lo k => rfl
      | di k => rfl
  have bs : ∀ {a : Addr} {i : Nat}, g.ow a = some (.sl i) → (g.back g').ow a = some (.sl i) := fun {a i} e => by
    show (match g.ow a with | some (.sl i) => some (Ow.sl i) | _ => g'.ow a) = _
    rw [e]
  have fo : ∀ a o, Fo a = some o → lendH g Fo H a = some o := fun a o e => by
    unfold lendH
    split
    · exact G.s.fo a o e
    · exact e
  have E2 : Ext Fo g m.S.length (g.back g') m2.S.length := ⟨E.mor, fun a o e => (E.new a o e).imp_right fun z => by
    cases q : Fo a with
    | none => rfl
    | some u => rw [fo a u q] at z; cases z⟩
  have old : ∀ a o, (∃ i, g.ow a = some (.sl i)) → H a = some o → H' a = some o := fun a o ⟨i, e⟩ h => by
    obtain ⟨u, h1, h2⟩ := lH e
    rw [h] at h1; cases h1
    exact G'.fo a _ h2
  refine ⟨⟨⟨G'.gh, fun a o e => G'.fo a o (fo a o e), fun k o e => ?_, fun a w e => ?_⟩, G.len, fun j s e => ?_⟩, E2, fun a n => bk n⟩
  · have x := G'.st k o e
    cases o with
    | ob o => obtain ⟨h, x1, x2, x3⟩ := x; exact ⟨h, (bk (nsl x1)).trans x1, x2, x3⟩
    | ins c fs => obtain ⟨C, dx, fs', x1, x2, x3, x4, x5, x6⟩ := x; exact ⟨C, dx, fs', (bk (nsl x1)).trans x1, x2, x3, x4, (bk (nsl x5)).trans x5, FsR.same (g := g') (g' := g.back g') rfl rfl x6⟩
  · by_cases c : ∃ i, g.ow a = some (.sl i)
    · obtain ⟨i, q⟩ := c
      obtain ⟨y1, y2, u, y3⟩ := G.s.ow a _ q
      refine ⟨?_, y2, u, old a u ⟨i, q⟩ y3⟩
      cases z : g'.G a with
      | none => exact z
      | some o =>
        rcases E.new a o z with h | h
        · have h : g.G a = some o := h
          rw [y1] at h; cases h
        · obtain ⟨u, _, h2⟩ := lH q
          rw [h] at h2; cases h2
    · have n : ∀ i, g.ow a ≠ some (.sl i) := fun i z => c ⟨i, z⟩
      rw [bk n] at e
      obtain ⟨y1, y2, y3⟩ := G'.ow a w e
      refine ⟨y1, ?_, y3⟩
      cases q : Fo a with
      | none => rfl
      | some u => rw [fo a u q] at y2; cases y2
  · have x := G.sl j s e
    cases s with
    | un => trivial
    | va d => obtain ⟨v, q1, q2⟩ := x; exact ⟨v, q1, q2.mor E.mor⟩
    | own o => obtain ⟨a, h, q1, q2, q3, q4⟩ := x; exact ⟨a, h, q1, bs q2, old a h ⟨j, q2⟩ q3, q4.ext E2⟩
theorem rd_call {F : Fn} {k : Nat} {Q : V → Hp → Prop} {ds : List D} {vs : List V} (G : Good Z Fo g m σ H) (r : DVs Z g.G g.μ m.S.length ds vs) (hk : ds.length = k)
    (h : Pg Z Fo W (RD Z) g m.S.length σ Q (match F ds ⟨[], m.S⟩ with | .ok d m' => .ok d ⟨m.ρ, m'.S⟩ | .exc x m' => .exc x ⟨m.ρ, m'.S⟩ | .no => .no)) : spF Z k F vs H Q (WE W σ) := by
  refine ⟨lendH g Fo H, g.lend, m.S, ds, by rw [← r.length, hk], G.s.lend, r, ?_⟩
  cases e : F ds ⟨[], m.S⟩ with
  | no => rw [e] at h; exact h
  | ok d m2 =>
    rw [e] at h
    intro v H' g' G' E rd
    obtain ⟨G2, E2, _⟩ := G.back G' E
    exact h v H' _ G2 E2 rd
  | exc x m2 =>
    rw [e] at h
    intro cls dd H' g' G' E rx
    obtain ⟨G2, E2, _⟩ := G.back G' E
    obtain ⟨C, h1, h2, h3⟩ := rx
    exact h cls dd H' _ G2 E2 ⟨C, h1, h2, fun ne => let ⟨a, fs', h4, h5, h6⟩ := h3 ne; ⟨a, fs', h4, h5, FsR.same (g := g') (g' := g.back g') rfl rfl h6⟩⟩

/-! ### a function's promise -/
structure RoomG (k : Nat) (A : Around) : Prop where
  room : Room k A
  gd : A.guards = some []
theorem RoomG.deeper {k : Nat} {A : Around} (r : RoomG (k + 1) A) (env : Env) : RoomG k (A.deeper env) := ⟨r.room.deeper env, r.gd⟩
theorem RoomG.mono {j k : Nat} {A : Around} (r : RoomG k A) (h : j ≤ k) : RoomG j A := ⟨r.room.mono h, r.gd⟩
structure FnG (P : Program) (w : World) (K : PySem.W.Frag) (mg : Str → Option Value) (base : Heap) (k : Nat) (f : Addr) (fd : FuncData) (ps : List Str) (sp : Sp) : Prop where
  len : ∀ vs H Q E, sp vs H Q E → vs.length = ps.length
  go : ∀ (A : Around) (outer : List Env) (s : Shared) (H : Hp) (args : Args) (us : List Value) (vs : List V) (Q : VK) (E : XK), RoomG k A → Env0 P w K mg base A outer s H → BindsTo s fd args (ps.zip us) → Vals vs us → sp vs H Q E →
    codeAny (model P w) A (.call (.ref f) args) (CR (L2.CX P w) outer P w H s Q E) s
theorem FnG.mono {P : Program} {w : World} {K : PySem.W.Frag} {mg : Str → Option Value} {base : Heap} {j k : Nat} {f : Addr} {fd : FuncData} {ps : List Str} {sp : Sp} (F : FnG P w K mg base j f fd ps sp) (h : j ≤ k) :
    FnG P w K mg base k f fd ps sp := ⟨F.len, fun A outer s H args us vs Q E r => F.go A outer s H args us vs Q E (r.mono h)⟩
def bodyF (n : Nat) (b : Mo Fl) : Fn := fun ds m => match b ⟨ds.map .va ++ List.replicate (n - ds.length) .un, m.S⟩ with
  | .ok (.rt d) m' => .ok d ⟨[], trunc m.S.length [d] m'.S⟩
  | .ok .nx m' => .ok .non ⟨[], trunc m.S.length [] m'.S⟩
  | .exc x m' => .exc x ⟨[], trunc m.S.length (x.fs.map (·.2)) m'.S⟩
  | _ => .no
theorem trunc_ok {ds : List D} (G : GoodS Z Fo g' S' H) (M : Ext Fo g n g' S'.length) : ∃ g2, GoodS Z Fo g2 (trunc n ds S') H ∧ Ext Fo g n g2 (trunc n ds S').length ∧ ∀ {d v}, d ∈ ds → DV Z g'.G g'.μ S'.length d v → DV Z g2.G g2.μ (trunc n ds S').length d v := by
  unfold trunc
  by_cases c : ((S'.take n).all (SO.low n) && D.lows n ds) = true
  · rw [if_pos c]
    rw [Bool.and_eq_true] at c
    have le := M.mor.n
    have ln : (S'.take n).length = n := by rw [List.length_take]; omega
    refine ⟨_, G.cut le c.1, ⟨⟨M.mor.g, M.mor.m, by rw [ln]; exact Nat.le_refl _⟩, M.new⟩, fun {d v} hd r => ?_⟩
    have bd : d.low n = true := by
      have z := c.2
      clear c M G
      induction ds with
      | nil => cases hd
      | cons a l ih =>
        rw [D.lows, Bool.and_eq_true] at z
        rcases List.mem_cons.mp hd with q | q
        · rw [q]; exact z.1
        · exact ih q z.2
    rw [ln]
    exact r.lowTo le bd
  · rw [if_neg c]
    exact ⟨g', G, M, fun _ r => r⟩
theorem va_at {ds : List D} {vs : List V} (r : DVs Z g.G g.μ N ds vs) : ∀ {j : Nat} {s : Sl} {k : Nat}, (ds.map Sl.va ++ List.replicate k Sl.un)[j]? = some s → s = .un ∨ ∃ d v, s = .va d ∧ vs[j]? = some v ∧ DV Z g.G g.μ N d v := fun {j s k} e => by
  by_cases lt : j < ds.length
  · rw [List.getElem?_append_left (by simpa using lt), List.getElem?_map] at e
    cases q : ds[j]? with
    | none => rw [q] at e; cases e
    | some d =>
      rw [q] at e
      cases e
      obtain ⟨v, ev, rv⟩ := r.get q
      exact .inr ⟨d, v, rfl, ev, rv⟩
  · rw [List.getElem?_append_right (by simpa using Nat.le_of_not_lt lt), List.getElem?_replicate] at e
    split at e
    · cases e; exact .inl rfl
    · cases e
theorem entry_good {Nn : List Str} {ds : List D} {vs : List V} (G : GoodS Z Fo g S H) (r : DVs Z g.G g.μ S.length ds vs) : Good Z Fo g ⟨ds.map .va ++ List.replicate (Nn.length - ds.length) .un, S⟩ (L2.start Nn vs) H := by
  refine ⟨G, by simp [L2.start, r.length], fun j s e => ?_⟩
  rcases va_at r e with rfl | ⟨d, v, rfl, ev, rv⟩
  · trivial
  · refine ⟨v, ?_, rv⟩
    have lt : j < vs.length := (List.getElem?_eq_some_iff.mp ev).1
    unfold L2.start
    rw [List.getElem?_append_left (by simpa using lt), List.getElem?_map, ev]
    rfl
theorem FsR.of_trunc {ds : List D} {g2 : Gh} {n2 n1 : Nat} (k : ∀ {d v}, d ∈ ds → DV Z g'.G g'.μ n1 d v → DV Z g2.G g2.μ n2 d v) : ∀ {fs : List (Str × D)} {fv : List (Str × V)}, (∀ p ∈ fs, p.2 ∈ ds) → FsR Z g' n1 fs fv → FsR Z g2 n2 fs fv
  | [], [], _, _ => trivial
  | (_, _) :: _, (_, _) :: _, h, ⟨h1, h2, h3⟩ => ⟨h1, k (h _ List.mem_cons_self) h2, FsR.of_trunc k (fun p hp => h p (List.mem_cons_of_mem _ hp)) h3⟩
  | [], _ :: _, _, h => h.elim
  | _ :: _, [], _, h => h.elim
/-- a def by its body -/
theorem fn_at {P : Program} {w : World} {K : PySem.W.Frag} {mg : Str → Option Value} {base : Heap} {k : Nat} {f : Addr} {name qual : Str} {params : Arguments} {body : List Stmt} {scope : Scope} {dV kV doc pm cdv ct oc : Value} {an od : Option Addr}
    {osl : Array (Option Value)} {Nn ps : List Str} {b : Mo Fl} (Z : Stc) (lk : K.lookup f = some ⟨oc, od, .func (PySem.W.fnOf name qual params body scope dV kV doc pm an cdv ct), osl⟩) (hcd : PySem.W.codeIn K cdv qual = true) (Sc : FnScope Nn ps scope)
    (hb : ∀ (A : Around) (outer : List Env) (s : Shared) (H : Hp) (E : XK) (Fo : Hp), RoomG k (A.deeper (envOfC qual scope s.heap.objs.size f cdv)) →
      PSs (cxOf (L2.CX P w) P w K mg base Nn qual scope f cdv A outer s H E) body (tS Z Fo (fun cls dd _ H => E cls dd H) b)) :
    FnG P w K mg base (k + 1) f (PySem.W.fnOf name qual params body scope dV kV doc pm an cdv ct) ps (spF Z ps.length (bodyF Nn.length b)) := by
  refine ⟨fun vs H Q E ⟨_, _, _, _, h, _⟩ => h, fun A outer s H args us vs Q E rm e0 bt r ⟨Fo, g, S, ds, hl, G, rs, hq⟩ => ?_⟩
  have KI : K.In s.heap := e0.mod.kin.keeps fun b o e => (e0.bs b o e).1
  have nl : s.heap.NoLimit := e0.mod.nolimit.keeps fun b o e => (e0.bs b o e).1
  have kinds : ∀ y ∈ ps.zip us, scope.names.lookup y.1 = some .local ∨ (scope.names.lookup y.1 = some .cell ∧ ((cellsFrom (s.heap.objs.size + 1) scope.names []).lookup y.1).isSome = true) := fun ⟨n, v⟩ hy =>
    (Sc.par n (List.of_mem_zip hy).1).imp_right fun q => ⟨q, PySem.W.cellsFrom_some _ _ _ (.inl q)⟩
  refine codeAny_call_function rm.room.depth (KI _ _ lk) rfl Sc.co Sc.gen rfl (PySem.W.codeRec_of KI hcd) (bt _ _ _ _ (wpAny_newFunctionEnv_cells Sc.kind kinds fun env he s1 x => ?_))
  subst he
  refine ⟨nl.keeps x.toInCall.keep, codeAny_func ?_⟩
  have I0 := inv_start (CX := L2.CX P w) (E := E) Sc rm.room.hd e0 hl r x
  have G0 := entry_good (Nn := Nn) G rs
  refine wpAny_mono ((hb A outer s H E Fo (rm.deeper _)).run [] s1 (L2.start Nn vs) H { nx := fun _ H' => Q .non H', rt := Q } I0 ⟨g, _, G0, ?_⟩) (fun fl s' hs => ?_) fun e s' hs => hs
  · unfold bodyF at hq
    dsimp only at hq
    cases e : b ⟨ds.map .va ++ List.replicate (Nn.length - ds.length) .un, S⟩ with
    | no => rw [e] at hq; exact hq
    | exc x m2 =>
      rw [e] at hq
      intro cls dd σ' H' g' G' E' rx
      obtain ⟨g2, G2, E2, k2⟩ := trunc_ok (ds := x.fs.map (·.2)) G'.s E'
      obtain ⟨C, h1, h2, h3⟩ := rx
      refine hq cls dd H' g2 G2 E2 ⟨C, h1, h2, fun ne => ?_⟩
      obtain ⟨a, fs', h4, h5, h6⟩ := h3 ne
      exact ⟨a, fs', h4, h5, FsR.of_trunc k2 (fun p hp => List.mem_map_of_mem hp) h6⟩
    | ok fl m2 =>
      rw [e] at hq
      cases fl with
      | nx =>
        intro σ' H' g' G' E'
        obtain ⟨g2, G2, E2, _⟩ := trunc_ok (ds := []) G'.s E'
        exact hq .non H' g2 G2 E2 .non
      | rt d =>
        intro v σ' H' g' G' E' rd
        obtain ⟨g2, G2, E2, k2⟩ := trunc_ok (ds := [d]) G'.s E'
        exact hq v H' g2 G2 E2 (k2 List.mem_cons_self rd)
      | bk => exact hq.elim
      | ct => exact hq.elim
  · have fin : ∀ {σ' : L2.St} {H' : Hp} {v : V} {u : Value}, Inv (cxOf (L2.CX P w) P w K mg base Nn qual scope f cdv A outer s H E) [] σ' H' s' → RelV v u → Q v H' → CE outer P w H s Q u s' :=
      fun {σ' H' v u} J rv q => ⟨v, H', J.os, J.bare, J.base, J.hok, rv, q⟩
    cases fl with
    | ret u => obtain ⟨v, σ', H', J, rv, q⟩ := hs; exact fin J rv q
    | next => obtain ⟨σ', H', J, q⟩ := hs; exact fin (v := .non) (u := .none) J rfl q
    | brk => obtain ⟨_, _, _, q⟩ := hs; exact q.elim
    | cont => obtain ⟨_, _, _, q⟩ := hs; exact q.elim
/-! ### the call -/
section
variable {k : Nat} {f : Addr} {fd : FuncData} {ps : List Str} {F : Fn} {x : Str} {p pos : Pos} {e : Expr} {es : List Expr} {a : Mo (List D)}
theorem run_g {pins : List (Addr × Obj)} {s : Shared} {Q : VK} {us : List Value} {vs : List V} {sp : Sp} {E : XK} (T : FnG X.prog X.w X.K X.mg X.base k f fd ps sp) (rm : RoomG k X.A) (hb : Binds X.K fd ps []) (hx : PassesAt (L2.CX X.prog X.w) X σ E)
    (I : Inv X pins σ H s) (r : Vals vs us) (h : sp vs H Q E) : wpAny (model X.prog X.w) X.A (call (.ref f) us) (EP X pins σ Q) X.xe s := by
  have bt := hb s us I.kIn (by rw [List.append_nil, ← r.length]; exact T.len _ _ _ _ h)
  rw [List.append_nil] at bt
  refine wpAny_call (codeAny_mono (T.go X.A X.stack s H ⟨us, []⟩ us vs Q E rm I.env0 bt r h) fun z s' hq => ?_)
  match z, hq with
  | .error e, hq => exact hx pins H s e s' I hq
  | .ok (.ret u), hq => exact I.after hq
theorem de_call (T : FnG X.prog X.w X.K X.mg X.base k f fd ps (spF Z ps.length F)) (rm : RoomG k X.A) (hg : Gl X x) (hm : X.mg x = some (.ref f)) (hk : PySem.W.keepIn X.K (.ref f) = true) (hb : Binds X.K fd ps []) (hx : ∀ σ, PassesAt (L2.CX X.prog X.w) X σ (WE W σ))
    (ha : PA X (e :: es) (tL Z Fo W a)) (hl : ∀ m ds m', a m = .ok ds m' → ds.length = ps.length) (hdb : (x == ("__debug__" : Str)) = false) (he : starEach (e :: es) X.env = (false, eval e X.env) :: starEach es X.env) (hpl : (backTo pos (starEach es X.env)).any (·.1) = false) :
    PE X (.Call (.Name x p) (e :: es) [] pos) (tE Z Fo W (callM F a)) := by
  refine ⟨fun pins s σ H Q I ⟨g, m, G, h⟩ => wpAny_Call_Name_kw (ld_glob I hg hm (PySem.W.callWith_K (h₀ := X.base) I.ok.mod.kin hk (thn (ha.run pos pins s σ H (fun vs H1 => spF Z ps.length F vs H1 Q (WE W σ)) I ⟨g, m, G, ?_⟩) fun us s1 ⟨vs, H1, I1, r, q⟩ => ⟨I1.kIn, run_g T rm hb (hx σ) I1 r q⟩) he hpl) hdb)⟩
  refine (Pg.bind (R := RDs Z) h).imp fun vs H1 ⟨ds, g1, m1, G1, E1, r, e1, q⟩ => rd_call G1 r (hl _ _ _ e1) q
theorem de_call0 (T : FnG X.prog X.w X.K X.mg X.base k f fd ps (spF Z ps.length F)) (rm : RoomG k X.A) (hg : Gl X x) (hm : X.mg x = some (.ref f)) (hk : PySem.W.keepIn X.K (.ref f) = true) (hb : Binds X.K fd ps []) (hx : ∀ σ, PassesAt (L2.CX X.prog X.w) X σ (WE W σ))
    (hl : ps.length = 0) (hdb : (x == ("__debug__" : Str)) = false) : PE X (.Call (.Name x p) [] [] pos) (tE Z Fo W (callM F (.ret []))) :=
  ⟨fun pins s σ H Q I ⟨g, m, G, h⟩ => wpAny_Call_Name_kw (ld_glob I hg hm (PySem.W.callWith_K0 I.kIn hk (run_g (us := []) (vs := []) T rm hb (hx σ) I .nil (rd_call (ds := []) G .nil (by rw [hl]; rfl) h))) hdb)⟩
end
end
end LB

namespace LB
open PySem L2 PyProof.Rows

/-! ### the plain form of a body -/
mutual
inductive Ex where
  | k (d : D) | v (i : Nat) | mc (d : D)
  | bop (o : BOp) (a b : Ex) | neg (a : Ex) | inv (a : Ex) | cmp (o : COp) (a b : Ex) | ch (o p : COp) (a b c : Ex) | nt (a : Ex)
  | and (a b : Ex) | or (a b : Ex) | ite (c : Bx) (a b : Ex)
  | tup (es : Exs) | nw (n : Nx)
  | call (x : Str) (es : Exs) | b1 (b : Bi1) (a : Ex) | isi (c : String) (a : Ex) | mn2 (mx : Bool) (a b : Ex)
  | ix (a b : Ex) | sl (a : Ex) (lo hi : Px) | om (o : Om) (a : Ex) (es : Exs) | dget (a k z : Ex)
inductive Px where
  | no | some (a : Ex)
inductive Exs where
  | nil | cons (e : Ex) (r : Exs)
inductive Prs where
  | nil | cons (k v : Ex) (r : Prs)
inductive Nx where
  | lst (es : Exs) | bop (o : BOp) (a b : Ex) | list (a : Ex) | sl (a : Ex) (lo hi : Px) | rev (a : Ex) | dct (ps : Prs) | lzip (es : Exs)
  | lc (s : Sr) (t : Tg) (vs : List Nat) (c : Bx) (e : Ex)
inductive Sr where
  | seq (e : Ex) | rng (es : Exs) | en (es : Exs) | zz (es : Exs)
inductive Bx where
  | yes | cmp (o : COp) (a b : Ex) | ch (o p : COp) (a b c : Ex) | and (a b : Bx) | or (a b : Bx) | nt (a : Bx) | tru (a : Ex)
end
mutual
inductive Sx where
  | pass | brk | cnt | ret (e : Ex) | retN | expr (e : Ex) | asg (t : Tg) (e : Ex) | own (i : Nat) (n : Nx) | setb (i : Nat) (o : BOp) (a b : Ex) | sets (i : Nat) (a : Ex) (lo hi : Px) | ifs (c : Bx) (a b : Sxs) | for (s : Sr) (t : Tg) (b : Sxs)
inductive Sxs where
  | nil | cons (s : Sx) (r : Sxs)
end
def Ex.opd (e : Ex) (f : Mo D) : Opd := match e with
  | .v i => (some i, .no)
  | _ => (none, f)
def frz (f : Mo Ob) : Mo D := f.bind fun o => .ret o.d
/-- a value, or a new object -/
def bopMN (o : BOp) (d e : D) : Mo D := fun m => match bopN o d e m with
  | .ok b m => .ok b.d m
  | _ => bopM o d e m
def slMN (d : D) (l u : Option Int) : Mo D := match slN d l u with
  | some b => .ret b.d
  | none => slDM d l u
/-- to a name: a new object is its own -/
def putS (i : Nat) : D ⊕ Ob → Mo Fl
  | .inl d => setT (.nm i) d
  | .inr b => fun m => if i < m.ρ.length then .ok .nx { m with ρ := m.ρ.set i (.own b) } else .no
def bopS (o : BOp) (d e : D) : Mo (D ⊕ Ob) := fun m => match bopN o d e m with
  | .ok b m => .ok (.inr b) m
  | _ => match bopM o d e m with
    | .ok d m => .ok (.inl d) m
    | .exc x m => .exc x m
    | .no => .no
def slS (d : D) (l u : Option Int) : Mo (D ⊕ Ob) := match slN d l u with
  | some b => .ret (.inr b)
  | none => match slD d l u with
    | some d => .ret (.inl d)
    | none => .no
def negM (d : D) : Mo D := match d with
  | .int i => .ret (.int (-i))
  | _ => .no
def invM (d : D) : Mo D := match d with
  | .int i => .ret (.int (Builtin.bitNot i))
  | _ => .no
/-- a op b op c: b is reckoned once -/
def chM (o p : COp) (a b c : Opd) : Mo Bool := fun m => (a.pre m).bind fun x m => (b.pre m).bind fun y m => match a.get x m, b.get y m with
  | some d, some e => match cmpD o d e with
    | some true => (c.pre m).bind fun z m => match b.get y m, c.get z m with
      | some e, some h => (cmpM p e h) m
      | _, _ => .no
    | some false => .ok false m
    | none => .no
  | _, _ => .no
section
variable (Φ : Str → Fn)
mutual
def evE : Ex → Mo D
  | .k d => .ret d
  | .v i => evV i
  | .mc d => .ret d
  | .bop o a b => opd2 (a.opd (evE a)) (b.opd (evE b)) (bopMN o)
  | .neg a => opd1 (a.opd (evE a)) negM
  | .inv a => opd1 (a.opd (evE a)) invM
  | .cmp o a b => blM (opd2 (a.opd (evE a)) (b.opd (evE b)) (cmpM o))
  | .ch o p a b c => blM (chM o p (a.opd (evE a)) (b.opd (evE b)) (c.opd (evE c)))
  | .nt a => blM (notT (opd1 (a.opd (evE a)) truM))
  | .and a b => andM (evE a) (evE b)
  | .or a b => orM (evE a) (evE b)
  | .ite c a b => iteM (evB c) (evE a) (evE b)
  | .tup es => tupM (evX es)
  | .nw n => frz (evN n)
  | .call x es => callM (Φ x) (evX es)
  | .b1 b a => opd1 (a.opd (evE a)) (bi1M b)
  | .isi c a => opd1 (a.opd (evE a)) (bi1M (.isi c))
  | .mn2 mx a b => opd2 (a.opd (evE a)) (b.opd (evE b)) (mn2M mx)
  | .ix a b => opd2 (a.opd (evE a)) (b.opd (evE b)) ixM
  | .sl a lo hi => slM (a.opd (evE a)) (evP lo) (evP hi) slMN
  | .om o a es => omM o (a.opd (evE a)) (evX es)
  | .dget a k z => dgetM (a.opd (evE a)) (evE k) (evE z)
def evP : Px → Prt
  | .no => none
  | .some a => some (evE a)
def evX : Exs → Mo (List D)
  | .nil => .ret []
  | .cons e r => consM (evE e) (evX r)
def evPs : Prs → List (Mo D × Mo D)
  | .nil => []
  | .cons k v r => (evE k, evE v) :: evPs r
def evN : Nx → Mo Ob
  | .lst es => lstM (evX es)
  | .bop o a b => opd2 (a.opd (evE a)) (b.opd (evE b)) (bopN o)
  | .list a => opd1 (a.opd (evE a)) listN
  | .sl a lo hi => slM (a.opd (evE a)) (evP lo) (evP hi) slNM
  | .rev a => opd1 (a.opd (evE a)) revM
  | .dct ps => dctM (evPs ps)
  | .lzip es => lzM (evX es)
  | .lc s t vs c e => lcM (evS s) t vs (evB c) (evE e)
def evS : Sr → Mo (List D)
  | .seq e => seqM (evE e)
  | .rng es => rngM (evX es)
  | .en es => enM (evX es)
  | .zz es => zzM (evX es)
def evB : Bx → Mo Bool
  | .yes => .ret true
  | .cmp o a b => opd2 (a.opd (evE a)) (b.opd (evE b)) (cmpM o)
  | .ch o p a b c => chM o p (a.opd (evE a)) (b.opd (evE b)) (c.opd (evE c))
  | .and a b => andT (evB a) (evB b)
  | .or a b => orT (evB a) (evB b)
  | .nt a => notT (evB a)
  | .tru a => opd1 (a.opd (evE a)) truM
end
mutual
def evT : Sx → Mo Fl
  | .pass => skipM
  | .brk => .ret .bk
  | .cnt => .ret .ct
  | .ret e => retM (evE Φ e)
  | .retN => .ret (.rt .non)
  | .expr e => dropM (evE Φ e)
  | .asg t e => asgM t (evE Φ e)
  | .own i n => ownM i (evN Φ n)
  | .setb i o a b => (opd2 (a.opd (evE Φ a)) (b.opd (evE Φ b)) (bopS o)).bind (putS i)
  | .sets i a lo hi => (slM (a.opd (evE Φ a)) (evP Φ lo) (evP Φ hi) slS).bind (putS i)
  | .ifs c a b => iffM (evB Φ c) (evTs a) (evTs b)
  | .for s t b => forM (evS Φ s) t (evTs b)
def evTs : Sxs → Mo Fl
  | .nil => skipM
  | .cons s r => seqS (evT s) (evTs r)
end
end

/-! ### a written body, brought into the plain form -/
/-- what stands fast for a block: its slots, its scope, what is written to cells -/
structure Blk where
  N : List Str
  sc : Scope
  fnC : Str → Bool
/-- the module: names it does not bind, its defs with their arities, its constants -/
structure Prg where
  free : List Str
  fns : List (Str × Nat)
  cs : List (Str × D)
def bopOf : Operator → Option BOp
  | .Add => some .add | .Sub => some .sub | .Mult => some .mul | .Mod => some .mod | .FloorDiv => some .fdiv | .Pow => some .pow | .BitAnd => some .band | .BitOr => some .bor | .BitXor => some .bxor | .LShift => some .shl | .RShift => some .shr
  | _ => none
def copOf : CmpOp → COp
  | .Eq => .eq | .NotEq => .ne | .Lt => .lt | .LtE => .le | .Gt => .gt | .GtE => .ge | .In => .isin | .NotIn => .notin | .Is => .is_ | .IsNot => .isnot
theorem bopOf_spec {o : Operator} {b : BOp} (h : bopOf o = some b) : b.op = o := by cases o <;> cases h <;> rfl
theorem copOf_spec (o : CmpOp) : (copOf o).op = o := by cases o <;> rfl
def constD : Const → Option D
  | .none => some .non | .bool b => some (.bl b) | .int i => some (.int i) | .str x => some (.str x)
  | _ => none
def plainA : Expr → Bool
  | .Starred .. => false
  | _ => true
def notSet : Expr → Bool
  | .Set .. => false
  | _ => true
def notSlice : Expr → Bool
  | .Slice .. => false
  | _ => true
def notComp : Expr → Bool
  | .ListComp .. => false
  | .SetComp .. => false
  | .DictComp .. => false
  | _ => true
def notTuple : Expr → Bool
  | .Tuple .. => false
  | _ => true
/-- no call of a name without arguments -/
def notBare : Expr → Bool
  | .Call (.Name _ _) [] [] _ => false
  | _ => true
def idx (N : List Str) (x : Str) : Option Nat := N.findIdx? fun y => decide (y = x)
def visB (sc : Scope) (x : Str) : Bool := match sc.names.lookup x with
  | some .local => true
  | some .cell => true
  | some .free => true
  | _ => false
def locB (sc : Scope) (x : Str) : Bool := match sc.names.lookup x with
  | some .local => true
  | some .cell => true
  | _ => false
def glB (sc : Scope) (x : Str) : Bool := match sc.names.lookup x with
  | some .globalImplicit => true
  | _ => false
def okNm (x : Str) : Bool := !(x == ("__debug__" : Str)) && !(x == ("__classdict__" : Str)) && decide (x ≠ "__name__")
/-- the name of a built-in that the module does not bind -/
def bltB (P0 : Prg) (Y : Blk) (x : Str) : Bool := glB Y.sc x && decide (x ∈ P0.free)
def guard' (b : Bool) : Option Unit := if b = true then some () else none
def bi1All : List Bi1 := [.len, .tuple, .int, .abs, .all, .any, .sum, .min, .max, .repr]
def bi1Of (x : Str) : Option Bi1 := bi1All.find? fun b => decide (b.nm = x)
def omAll : List Om := [.append, .extend, .pop, .reverse, .clear, .update]
def omOf (x : Str) : Option Om := omAll.find? fun b => decide (b.nm = x)
def ownOf (N : List Str) (scope : Scope) : List (Str × Nat) := scope.names.filterMap fun (x, k) => match k with
  | .local => (idx N x).map fun i => (x, i)
  | .cell => (idx N x).map fun i => (x, i)
  | _ => none
def Blk.inner (Y : Blk) (scope : Scope) : Blk := ⟨Y.N, relS scope Y.sc, fun x => scope.names.lookup x == some .cell⟩
/-- f(a, b) -/
def zipArgs : Expr → Option (Str × Expr × Expr)
  | .Call (.Name z _) [a, b] [] _ => some (z, a, b)
  | _ => none
mutual
def cT (Y : Blk) : Nat → Expr → Option Tg
  | 0, _ => none
  | n + 1, .Name x _ => match idx Y.N x with
    | some i => if locB Y.sc x && (Y.fnC x || (match Y.sc.names.lookup x with | some .local => true | _ => false)) then some (.nm i) else none
    | none => none
  | n + 1, .Tuple es _ _ => (cTs Y n es).map .tp
  | _, _ => none
def cTs (Y : Blk) : Nat → List Expr → Option Tgs
  | 0, _ => none
  | n + 1, [] => some .nil
  | n + 1, e :: es => match cT Y n e, cTs Y n es with
    | some t, some ts => some (.cons t ts)
    | _, _ => none
end
section
variable (P0 : Prg)
mutual
def cE (Y : Blk) : Nat → Expr → Option Ex
  | 0, _ => none
  | n + 1, e => match cV Y n e with
    | some a => some a
    | none => (cN Y n e).map .nw
def cV (Y : Blk) : Nat → Expr → Option Ex
  | 0, _ => none
  | n + 1, e => match e with
    | .Constant c _ _ => (constD c).map .k
    | .Name x _ => cName Y n x
    | .BinOp a o b _ => (bopOf o).bind fun o => (cE Y n a).bind fun a => (cE Y n b).map fun b => .bop o a b
    | .UnaryOp .USub a _ => (cE Y n a).map .neg
    | .UnaryOp .Invert a _ => (cE Y n a).map .inv
    | .UnaryOp .Not a _ => (cE Y n a).map .nt
    | .IfExp c a b _ => (cB Y n c).bind fun c => (cE Y n a).bind fun a => (cE Y n b).map fun b => .ite c a b
    | .BoolOp o vs p => cO Y n o vs
    | .Compare a [o] [b] _ => if notSet b then (cE Y n a).bind fun a => (cE Y n b).map fun b => .cmp (copOf o) a b else none
    | .Tuple es _ _ => (cX Y n es).map .tup
    | .Call f es [] p => match f with
      | .Name x _ => cCall Y n x es
      | .Attribute o m ap => cMeth Y n o m ap es p
      | _ => none
    | .Subscript a s _ => match s with
      | .Slice lo hi none _ => (cE Y n a).bind fun a => (cPx Y n lo).bind fun lo => (cPx Y n hi).map fun hi => .sl a lo hi
      | s => if notSlice s then (cE Y n a).bind fun a => (cE Y n s).map fun b => .ix a b else none
    | _ => none
def cName (Y : Blk) : Nat → Str → Option Ex
  | n, x => if okNm x then match idx Y.N x with
    | some i => if visB Y.sc x then some (.v i) else none
    | none => if glB Y.sc x then (P0.cs.lookup x).map .mc else none
  else none
def cO (Y : Blk) : Nat → BoolOp → List Expr → Option Ex
  | 0, _, _ => none
  | n + 1, o, [a] => cE Y n a
  | n + 1, o, a :: b :: r => (cE Y n a).bind fun a => (cO Y n o (b :: r)).map fun b => match o with
    | .And => .and a b
    | .Or => .or a b
  | n + 1, _, [] => none
def cX (Y : Blk) : Nat → List Expr → Option Exs
  | 0, _ => none
  | n + 1, [] => some .nil
  | n + 1, e :: es => if plainA e then (cE Y n e).bind fun a => (cX Y n es).map fun r => .cons a r else none
def cPx (Y : Blk) : Nat → Option Expr → Option Px
  | 0, _ => none
  | n + 1, none => some .no
  | n + 1, some e => (cE Y n e).map .some
def cCall (Y : Blk) : Nat → Str → List Expr → Option Ex
  | 0, _, _ => none
  | n + 1, x, es => if okNm x && glB Y.sc x then match P0.fns.lookup x with
      | some k => (cX Y n es).bind fun a => if decide (es.length = k) then some (.call x a) else none
      | none => if bltB P0 Y x then match es with
        | [e] => match bi1Of x with
          | some b => if plainA e then (cE Y n e).map fun a => .b1 b a else none
          | none => none
        | [e, f] => if decide (x = "isinstance") then match f with
            | .Name t _ => if bltB P0 Y t && plainA e then (clsOf t).bind fun c => (cE Y n e).map fun a => .isi c a else none
            | _ => none
          else if decide (x = "min") || decide (x = "max") then if plainA e && plainA f then (cE Y n e).bind fun a => (cE Y n f).map fun b => .mn2 (decide (x = "max")) a b else none else none
        | _ => none
      else none
    else none
def cMeth (Y : Blk) : Nat → Expr → Str → Pos → List Expr → Pos → Option Ex
  | 0, _, _, _, _, _ => none
  | n + 1, o, m, ap, es, p => if notBare o && (ap.endLine == p.line) then match omOf m with
      | some om => if decide (es.length < 20) then (cE Y n o).bind fun a => (cX Y n es).map fun r => .om om a r else none
      | none => match es with
        | [k, z] => if decide (m = "get") && plainA k && plainA z then (cE Y n o).bind fun a => (cE Y n k).bind fun k => (cE Y n z).map fun z => .dget a k z else none
        | _ => none
    else none
def cPr (Y : Blk) : Nat → List (Option Expr) → List Expr → Option Prs
  | 0, _, _ => none
  | n + 1, [], [] => some .nil
  | n + 1, some k :: ks, v :: vs => (cE Y n k).bind fun a => (cE Y n v).bind fun b => (cPr Y n ks vs).map fun r => .cons a b r
  | n + 1, _, _ => none
def cN (Y : Blk) : Nat → Expr → Option Nx
  | 0, _ => none
  | n + 1, e => match e with
    | .List es _ => (cX Y n es).map .lst
    | .BinOp a o b _ => (bopOf o).bind fun o => (cE Y n a).bind fun a => (cE Y n b).map fun b => .bop o a b
    | .Dict ks vs _ => if decide (ks.length ≤ 15) && !ks.isEmpty && decide (ks.length = vs.length) && ks.all (·.isSome) then (cPr Y n ks vs).map .dct else none
    | .Call (.Name f _) [e] [] _ => if decide (f = "list") && bltB P0 Y f then match zipArgs e with
        | some q => if decide (q.1 = "zip") && bltB P0 Y q.1 then (cX Y n [q.2.1, q.2.2]).map .lzip else none
        | none => if plainA e then (cE Y n e).map .list else none
      else none
    | .Subscript a s _ => match s with
      | .Slice lo hi none _ => (cE Y n a).bind fun a => (cPx Y n lo).bind fun lo => (cPx Y n hi).map fun hi => .sl a lo hi
      | .Slice none none (some (.UnaryOp .USub (.Constant (.int 1) _ _) _)) _ => (cE Y n a).map fun a => .rev a
      | _ => none
    | .ListComp e gs scope _ => match gs with
      | [⟨tg, it, ifs, 0⟩] => if notSet it && blkC Y.N Y.sc scope (ownOf Y.N scope) then (cS Y n tg it).bind fun s => (cT (Y.inner scope) n tg).bind fun t => (cE (Y.inner scope) n e).bind fun a => match ifs with
          | [] => some (.lc s t ((ownOf Y.N scope).map (·.2)) .yes a)
          | [c] => (cB (Y.inner scope) n c).map fun c => .lc s t ((ownOf Y.N scope).map (·.2)) c a
          | _ => none
        else none
      | _ => none
    | _ => none
/-- what is gone through; tg: where the items go -/
def cS (Y : Blk) : Nat → Expr → Expr → Option Sr
  | 0, _, _ => none
  | n + 1, tg, e => match e with
    | .Call (.Name x _) es [] _ => if bltB P0 Y x && decide (x = "range") then (if decide (1 ≤ es.length) && decide (es.length ≤ 3) then (cX Y n es).map .rng else none)
      else if bltB P0 Y x && decide (x = "enumerate") && !notTuple tg then (match es with | [_] => (cX Y n es).map .en | _ => none)
      else if bltB P0 Y x && decide (x = "zip") && !notTuple tg then (match es with | [_, _] => (cX Y n es).map .zz | _ => none)
      else match cCall Y n x es with
        | some e => some (.seq e)
        | none => none
    | e => (cE Y n e).map .seq
def cB (Y : Blk) : Nat → Expr → Option Bx
  | 0, _ => none
  | n + 1, e => match e with
    | .Compare a [o] [b] _ => if notSet b then (cE Y n a).bind fun a => (cE Y n b).map fun b => .cmp (copOf o) a b else none
    | .BoolOp o vs _ => cQ Y n o vs
    | .UnaryOp .Not a _ => (cB Y n a).map .nt
    | e => if plainT e then (cE Y n e).map .tru else none
def cQ (Y : Blk) : Nat → BoolOp → List Expr → Option Bx
  | 0, _, _ => none
  | n + 1, o, [a] => cB Y n a
  | n + 1, o, a :: b :: r => (cB Y n a).bind fun a => (cQ Y n o (b :: r)).map fun b => match o with
    | .And => .and a b
    | .Or => .or a b
  | n + 1, _, [] => none
end
mutual
def cSt (Y : Blk) : Nat → Stmt → Option Sx
  | 0, _ => none
  | n + 1, e => match e with
    | .Pass _ => some .pass
    | .Break _ => some .brk
    | .Continue _ => some .cnt
    | .Return (some e) _ => (cE P0 Y n e).map .ret
    | .Return none _ => some .retN
    | .Expr e _ => match e with
      | .Constant (.str _) _ _ => some .pass
      | e => if notComp e then (cE P0 Y n e).map .expr else none
    | .Assign [tg] e p => cAs Y n tg e p
    | .If c a b _ => (cB P0 Y n c).bind fun c => (cSs Y n a).bind fun a => (cSs Y n b).map fun b => .ifs c a b
    | .For tg it b [] _ => if notSet it then (cS P0 Y n tg it).bind fun s => (cT Y n tg).bind fun t => (cSs Y n b).map fun b => .for s t b else none
    | _ => none
def cSs (Y : Blk) : Nat → List Stmt → Option Sxs
  | 0, _ => none
  | n + 1, [] => some .nil
  | n + 1, s :: r => (cSt Y n s).bind fun a => (cSs Y n r).map fun b => .cons a b
/-- an assignment: a value, or a new object of the name's own -/
def cAs (Y : Blk) : Nat → Expr → Expr → Pos → Option Sx
  | 0, _, _, _ => none
  | n + 1, tg, e, p => match cT Y n tg with
    | none => none
    | some t => if notComp e then (if notTuple tg || notTuple e then
        match t, (match tg with | .Name _ _ => cN P0 Y n e | _ => none) with
        | .nm i, some nx => match e with
          | .BinOp .. => (match nx with
            | .bop o a b => some (.setb i o a b)
            | _ => none)
          | .Subscript .. => (match nx with
            | .sl a lo hi => some (.sets i a lo hi)
            | nx => some (.own i nx))
          | _ => some (.own i nx)
        | t, _ => (cE P0 Y n e).map fun a => .asg t a
      else none)
      else match t, e, tg with
        | .nm i, .ListComp _ _ scope cp, .Name y py => (cN P0 Y n e).bind fun nx =>
          if decide (Y.sc.names.lookup y = some .local) && (py.line == cp.line) && !(scope.names.any fun (n, k) => n == y && (k == .local || k == .cell)) then some (.own i nx)
          else if !decide (Y.sc.names.lookup y = some .local) then some (.own i nx) else none
        | _, _, _ => none
end
end
end LB

namespace LB
open PySem L2 PyProof.Rows

/-! ### what the plain form tells holds of the written one -/
structure Sit (P0 : Prg) (Z : Stc) (Φ : Str → Fn) (k : Nat) (X : Cx) : Prop where
  free : ∀ x ∈ P0.free, X.mg x = none
  fn : ∀ x n, P0.fns.lookup x = some n → ∃ f fd ps, ps.length = n ∧ X.mg x = some (.ref f) ∧ PySem.W.keepIn X.K (.ref f) = true ∧ Binds X.K fd ps [] ∧ FnG X.prog X.w X.K X.mg X.base k f fd ps (spF Z n (Φ x))
  cs : ∀ x d, P0.cs.lookup x = some d → ∃ v u, X.mg x = some u ∧ RelV v u ∧ ∀ G μ N, DV Z G μ N d v
structure Fit (P0 : Prg) (Z : Stc) (Φ : Str → Fn) (k : Nat) (X : Cx) (Y : Blk) (W : WX) : Prop where
  st : Sit P0 Z Φ k X
  K : X.K = Z.K
  w : X.w = Z.w
  calm : X.calm = true
  rm : RoomG k X.A
  nd : X.N.Nodup
  N : X.N = Y.N
  sc : X.env.scope = Y.sc
  kd : Y.sc.kind = .function
  fc : ∀ x, Y.fnC x = true → X.fn x = true
  pa : ∀ σ, PassesAt (L2.CX X.prog X.w) X σ (WE W σ)
section
variable {P0 : Prg} {Z : Stc} {Φ : Str → Fn} {k : Nat} {X : Cx} {Y : Blk} {W : WX} {Fo : Hp}
theorem Fit.units (F : Fit P0 Z Φ k X Y W) : X.A.units + 66 < cLine := by have := F.rm.room.un; omega
theorem Fit.gl (F : Fit P0 Z Φ k X Y W) {x : Str} (h : glB Y.sc x = true) : Gl X x := by
  show X.env.scope.names.lookup x = some .globalImplicit
  rw [F.sc]
  unfold glB at h
  split at h
  · assumption
  · cases h
theorem Fit.blt (F : Fit P0 Z Φ k X Y W) {x : Str} (h : bltB P0 Y x = true) : Gl X x ∧ X.mg x = none := by
  unfold bltB at h
  rw [Bool.and_eq_true, decide_eq_true_eq] at h
  exact ⟨F.gl h.1, F.st.free x h.2⟩
theorem idx_spec {N : List Str} {x : Str} {i : Nat} (h : idx N x = some i) : N[i]? = some x := by
  unfold idx at h
  obtain ⟨lt, p, _⟩ := List.findIdx?_eq_some_iff_getElem.mp h
  rw [List.getElem?_eq_getElem lt]
  exact congrArg some (of_decide_eq_true p)
theorem okNm_spec {x : Str} (h : okNm x = true) : (x == ("__debug__" : Str)) = false ∧ (x == ("__classdict__" : Str)) = false ∧ x ≠ "__name__" := by
  unfold okNm at h
  simp only [Bool.and_eq_true, Bool.not_eq_true', decide_eq_true_eq] at h
  exact ⟨h.1.1, h.1.2, h.2⟩
/-- what is one of two things that are told -/
theorem pe_any {e : Expr} {f r c : Mo D} (h1 : PE X e (tE Z Fo W f)) (h2 : PE X e (tE Z Fo W r)) (h : ∀ m, c m = .no ∨ c m = f m ∨ c m = r m) : PE X e (tE Z Fo W c) := ⟨fun pins s σ H Q I ⟨g, m, G, q⟩ => by
  rcases h m with z | z | z <;> rw [z] at q
  · exact q.elim
  · exact h1.run pins s σ H Q I ⟨g, m, G, q⟩
  · exact h2.run pins s σ H Q I ⟨g, m, G, q⟩⟩
theorem ps_any {st : Stmt} {f r c : Mo Fl} (h1 : PS X st (tS Z Fo W f)) (h2 : PS X st (tS Z Fo W r)) (h : ∀ m, c m = .no ∨ c m = f m ∨ c m = r m) : PS X st (tS Z Fo W c) := ⟨fun pins s σ H Q I ⟨g, m, G, q⟩ => by
  rcases h m with z | z | z <;> rw [z] at q
  · exact q.elim
  · exact h1.run pins s σ H Q I ⟨g, m, G, q⟩
  · exact h2.run pins s σ H Q I ⟨g, m, G, q⟩⟩
theorem bop_or (o : BOp) (a b : Opd) (m : Mst) : opd2 a b (bopMN o) m = .no ∨ opd2 a b (bopMN o) m = opd2 a b (bopM o) m ∨ opd2 a b (bopMN o) m = frz (opd2 a b (bopN o)) m := by
  unfold frz opd2
  simp only [Mo.bind_at]
  cases a.pre m with
  | no => exact .inl rfl
  | exc x m => exact .inr (.inl rfl)
  | ok x m =>
    simp only [Res.bind_ok]
    cases b.pre m with
    | no => exact .inl rfl
    | exc x m => exact .inr (.inl rfl)
    | ok y m =>
      simp only [Res.bind_ok]
      cases a.get x m with
      | none => exact .inl rfl
      | some d =>
        cases b.get y m with
        | none => exact .inl rfl
        | some e =>
          simp only [bopMN]
          cases bopN o d e m with
          | no => exact .inr (.inl rfl)
          | exc x m => exact .inr (.inl rfl)
          | ok b m => exact .inr (.inr rfl)
theorem bopS_or (i : Nat) (o : BOp) (a b : Opd) (m : Mst) : ((opd2 a b (bopS o)).bind (putS i)) m = .no ∨ ((opd2 a b (bopS o)).bind (putS i)) m = ownM i (opd2 a b (bopN o)) m ∨ ((opd2 a b (bopS o)).bind (putS i)) m = asgM (.nm i) (opd2 a b (bopM o)) m := by
  unfold ownM asgM opd2
  simp only [Mo.bind_at]
  cases a.pre m with
  | no => exact .inl rfl
  | exc x m => exact .inr (.inl rfl)
  | ok x m =>
    simp only [Res.bind_ok]
    cases b.pre m with
    | no => exact .inl rfl
    | exc x m => exact .inr (.inl rfl)
    | ok y m =>
      simp only [Res.bind_ok]
      cases a.get x m with
      | none => exact .inl rfl
      | some d =>
        cases b.get y m with
        | none => exact .inl rfl
        | some e =>
          simp only [bopS]
          cases bopN o d e m with
          | ok b m => exact .inr (.inl rfl)
          | no =>
            cases bopM o d e m with
            | no => exact .inl rfl
            | exc x m => exact .inr (.inr rfl)
            | ok d m => exact .inr (.inr rfl)
          | exc x m2 =>
            cases bopM o d e m with
            | no => exact .inl rfl
            | exc x m => exact .inr (.inr rfl)
            | ok d m => exact .inr (.inr rfl)
theorem sl_or (a : Opd) (lo hi : Prt) (m : Mst) : slM a lo hi slMN m = .no ∨ slM a lo hi slMN m = slM a lo hi slDM m ∨ slM a lo hi slMN m = frz (slM a lo hi slNM) m := by
  unfold frz slM
  simp only [Mo.bind_at]
  cases a.pre m with
  | no => exact .inl rfl
  | exc x m => exact .inr (.inl rfl)
  | ok x m =>
    simp only [Res.bind_ok, Mo.bind_at]
    cases prtM lo m with
    | no => exact .inl rfl
    | exc x m => exact .inr (.inl rfl)
    | ok l m =>
      simp only [Res.bind_ok, Mo.bind_at]
      cases prtM hi m with
      | no => exact .inl rfl
      | exc x m => exact .inr (.inl rfl)
      | ok u m =>
        simp only [Res.bind_ok]
        cases a.get x m with
        | none => exact .inl rfl
        | some d =>
          simp only [slMN, slNM]
          cases slN d l u with
          | none => exact .inr (.inl rfl)
          | some b => exact .inr (.inr rfl)
theorem slS_or (i : Nat) (a : Opd) (lo hi : Prt) (m : Mst) : ((slM a lo hi slS).bind (putS i)) m = .no ∨ ((slM a lo hi slS).bind (putS i)) m = ownM i (slM a lo hi slNM) m ∨ ((slM a lo hi slS).bind (putS i)) m = asgM (.nm i) (slM a lo hi slDM) m := by
  unfold ownM asgM slM
  simp only [Mo.bind_at]
  cases a.pre m with
  | no => exact .inl rfl
  | exc x m => exact .inr (.inl rfl)
  | ok x m =>
    simp only [Res.bind_ok, Mo.bind_at]
    cases prtM lo m with
    | no => exact .inl rfl
    | exc x m => exact .inr (.inl rfl)
    | ok l m =>
      simp only [Res.bind_ok, Mo.bind_at]
      cases prtM hi m with
      | no => exact .inl rfl
      | exc x m => exact .inr (.inl rfl)
      | ok u m =>
        simp only [Res.bind_ok]
        cases a.get x m with
        | none => exact .inl rfl
        | some d =>
          simp only [slS, slNM, slDM]
          cases slN d l u with
          | some b => exact .inr (.inl rfl)
          | none =>
            cases slD d l u with
            | none => exact .inl rfl
            | some z => exact .inr (.inr rfl)
theorem pe_frz {e : Expr} {f : Mo Ob} (h : PE X e (tN Z Fo W f)) : PE X e (tE Z Fo W (frz f)) := h.imp fun _ _ _ q => rd_new q
theorem pe_val {e : Expr} {a : Ex} (h : PE X e (tO Z Fo W (a.opd (evE Φ a)))) : PE X e (tE Z Fo W (evE Φ a)) := by
  cases a with
  | v i => exact h.imp fun _ _ _ q => rd_var q
  | _ => exact h
theorem star_cons {e : Expr} {es : List Expr} {env : Env} (h : plainA e = true) : starEach (e :: es) env = (false, eval e env) :: starEach es env := by
  cases e <;> first | rfl | cases h
theorem star_any {es : List Expr} {env : Env} {pos : Pos} (h : ∀ e ∈ es, plainA e = true) : (backTo pos (starEach es env)).any (·.1) = false := by
  induction es with
  | nil => rfl
  | cons e es ih =>
    rw [star_cons (h e List.mem_cons_self)]
    show (false || (backTo pos (starEach es env)).any (·.1)) = false
    rw [ih fun e he => h e (List.mem_cons_of_mem _ he)]
    rfl
theorem star_few {es : List Expr} {env : Env} {pos : Pos} (h : ∀ e ∈ es, plainA e = true) (l : es.length < 20) : ((backTo pos (starEach es env)).all (fun x => !x.1) && (backToKw pos (keywordEach [] env)).all (fun x => x.1.isSome) && decide (es.length + ([] : List Keyword).length + (if ([] : List Keyword).isEmpty then 0 else 1) < 30)) = true := by
  have h1 : (backTo pos (starEach es env)).all (fun x => !x.1) = true := by
    clear l
    induction es with
    | nil => rfl
    | cons e es ih =>
      rw [star_cons (h e List.mem_cons_self)]
      show (!false && (backTo pos (starEach es env)).all (fun x => !x.1)) = true
      rw [ih fun e he => h e (List.mem_cons_of_mem _ he)]
      rfl
  have h2 : (backToKw pos (keywordEach [] env)).all (fun x => x.1.isSome) = true := rfl
  rw [h1, h2, Bool.true_and, Bool.true_and]
  refine decide_eq_true ?_
  show es.length + 0 + 0 < 30
  omega
theorem base_plain {o : Expr} {m : Str} {env : Env} (h : notBare o = true) : attributeBase o m env (eval o env) = eval o env := by
  cases o with
  | Call f es kws p =>
    cases f with
    | Name x p2 =>
      cases es with
      | nil => cases kws with
        | nil => cases h
        | cons _ _ => rfl
      | cons _ _ => rfl
    | _ => rfl
  | _ => rfl
theorem fold_plain {e : Expr} {env : Env} (h : notSet e = true) : ∀ x, foldedSetIterable e env x = pure x := by
  cases e <;> first | exact fun _ => rfl | cases h
theorem constD_ok {c : Const} {d : D} {j : Nat} {p : Pos} (h : constD c = some d) : PE X (.Constant c j p) (tE Z Fo W (.ret d)) := by
  cases c with
  | none => cases h; exact pe_non.imp fun _ _ _ q => rd_k (fun _ _ _ => .non) q
  | bool b => cases h; exact pe_bl.imp fun _ _ _ q => rd_k (fun _ _ _ => .bl b) q
  | int i => cases h; exact pe_int.imp fun _ _ _ q => rd_k (fun _ _ _ => .int i) q
  | str x => cases h; exact pe_str.imp fun _ _ _ q => rd_k (fun _ _ _ => .str x) q
  | _ => cases h
theorem de_neg {ea : Expr} {a : Opd} {pos : Pos} (ha : PE X ea (tO Z Fo W a)) : PE X (.UnaryOp .USub ea pos) (tE Z Fo W (opd1 a negM)) := (pe_un un_neg ha).imp fun σ H Q ⟨g, m, G, h⟩ => rd_opd1 G h fun g' m' H' x d G' _ px p => by
  cases d with
  | int i => exact ⟨i, px.int, p _ _ _ G' .rfl' (.int _)⟩
  | _ => exact p.elim
theorem de_inv {ea : Expr} {a : Opd} {pos : Pos} (ha : PE X ea (tO Z Fo W a)) : PE X (.UnaryOp .Invert ea pos) (tE Z Fo W (opd1 a invM)) := (pe_un un_inv ha).imp fun σ H Q ⟨g, m, G, h⟩ => rd_opd1 G h fun g' m' H' x d G' _ px p => by
  cases d with
  | int i => exact ⟨i, px.int, p _ _ _ G' .rfl' (.int _)⟩
  | _ => exact p.elim
theorem pe_k {x : Str} {d : D} {v : V} {u : Value} {p : Pos} (hg : Gl X x) (hm : X.mg x = some u) (r : RelV v u) (dv : ∀ G μ N, DV Z G μ N d v) (hd : (x == ("__debug__" : Str)) = false) : PE X (.Name x p) (tE Z Fo W (.ret d)) :=
  ⟨fun pins s σ H Q I ⟨g, m, G, h⟩ => ld_glob I hg hm ⟨v, H, I, r, h v H g G .rfl' (dv _ _ _)⟩ hd⟩
end
end LB

namespace LB
open PySem L2 PyProof.Rows

section
variable (P0 : Prg) (Z : Stc) (Φ : Str → Fn) (k : Nat)
/-- what holds of every block that fits -/
abbrev All (p : Cx → Blk → WX → Hp → Prop) (Y : Blk) : Prop := ∀ (X : Cx) (W : WX) (Fo : Hp), Fit P0 Z Φ k X Y W → p X Y W Fo
structure Snd (n : Nat) : Prop where
  e : ∀ Y e a, cE P0 Y n e = some a → All P0 Z Φ k (fun X _ W Fo => PE X e (tO Z Fo W (a.opd (evE Φ a)))) Y
  v : ∀ Y e a, cV P0 Y n e = some a → All P0 Z Φ k (fun X _ W Fo => PE X e (tO Z Fo W (a.opd (evE Φ a)))) Y
  o : ∀ Y o vs a, cO P0 Y n o vs = some a → All P0 Z Φ k (fun X _ W Fo => ∀ p, PE X (.BoolOp o vs p) (tO Z Fo W (a.opd (evE Φ a)))) Y
  x : ∀ Y es r, cX P0 Y n es = some r → All P0 Z Φ k (fun X _ W Fo => PA X es (tL Z Fo W (evX Φ r))) Y ∧ (∀ e ∈ es, plainA e = true) ∧ ∀ m ds m', evX Φ r m = .ok ds m' → ds.length = es.length
  px : ∀ Y e a, cPx P0 Y n e = some a → All P0 Z Φ k (fun X _ W Fo => PO X e (tP Z Fo W (evP Φ a))) Y
  call : ∀ Y x es a, cCall P0 Y n x es = some a → All P0 Z Φ k (fun X _ W Fo => ∀ p pos, PE X (.Call (.Name x p) es [] pos) (tO Z Fo W (a.opd (evE Φ a)))) Y
  meth : ∀ Y o m ap es p a, cMeth P0 Y n o m ap es p = some a → All P0 Z Φ k (fun X _ W Fo => PE X (.Call (.Attribute o m ap) es [] p) (tO Z Fo W (a.opd (evE Φ a)))) Y
  pr : ∀ Y ks vs r, cPr P0 Y n ks vs = some r → All P0 Z Φ k (fun X _ W _ => ∀ pos, PPs X pos ks vs ((evPs Φ r).map fun p => (tEx Z W p.1, tEx Z W p.2))) Y
  nw : ∀ Y e a, cN P0 Y n e = some a → All P0 Z Φ k (fun X _ W Fo => PE X e (tN Z Fo W (evN Φ a))) Y
  s : ∀ Y tg e a, cS P0 Y n tg e = some a → All P0 Z Φ k (fun X _ W Fo => PI X tg e (tI Z Fo W (evS Φ a))) Y
  b : ∀ Y e a, cB P0 Y n e = some a → All P0 Z Φ k (fun X _ W Fo => PT X e (tT Z Fo W (evB Φ a))) Y
  q : ∀ Y o vs a, cQ P0 Y n o vs = some a → All P0 Z Φ k (fun X _ W Fo => ∀ p, PW X (.BoolOp o vs p) (tT Z Fo W (evB Φ a))) Y
  t : ∀ Y e t, cT Y n e = some t → All P0 Z Φ k (fun X _ W Fo => PG X e (gT Z Fo t)) Y ∧ plainA e = true
  ts : ∀ Y es ts, cTs Y n es = some ts → All P0 Z Φ k (fun X _ W Fo => PGs X es (gTs Z Fo ts)) Y ∧ (∀ e ∈ es, plainA e = true) ∧ ts.len = es.length
end
section
variable {P0 : Prg} {Z : Stc} {Φ : Str → Fn} {k : Nat} {n : Nat}
theorem snd_zero : Snd P0 Z Φ k 0 := by
  constructor <;> intros <;> rename_i h <;> first | cases h | (simp only [cE, cV, cO, cX, cPx, cCall, cMeth, cPr, cN, cS, cB, cQ, cT, cTs] at h; cases h)
theorem bnd {α β : Type} {o : Option α} {f : α → Option β} {b : β} (h : o.bind f = some b) : ∃ a, o = some a ∧ f a = some b := Option.bind_eq_some_iff.mp h
theorem mpd {α β : Type} {o : Option α} {f : α → β} {b : β} (h : o.map f = some b) : ∃ a, o = some a ∧ f a = b := Option.map_eq_some_iff.mp h
theorem ifs' {α : Type} {c : Bool} {a : Option α} {b : α} (h : (if c = true then a else none) = some b) : c = true ∧ a = some b := by
  cases c with
  | true => exact ⟨rfl, h⟩
  | false => cases h
/-! targets -/
theorem each_len {es : List Expr} {env : Env} (h : ∀ e ∈ es, plainA e = true) : (assignEach es env).length = es.length ∧ (assignEach es env).findIdx? (·.1) = none ∧ ∀ e r, es = e :: r → (assignEach es env).map (·.2) = assign e env :: (assignEach r env).map (·.2) := by
  induction es with
  | nil => exact ⟨rfl, rfl, fun _ _ z => nomatch z⟩
  | cons e es ih =>
    obtain ⟨h1, h2, _⟩ := ih fun e he => h e (List.mem_cons_of_mem _ he)
    have he := h e List.mem_cons_self
    have q : assignEach (e :: es) env = (false, assign e env) :: assignEach es env := by
      cases e <;> first | rfl | cases he
    rw [q]
    refine ⟨by rw [List.length_cons, List.length_cons, h1], ?_, fun e' r z => by cases z; rfl⟩
    rw [List.findIdx?_cons, h2]
    rfl
theorem snd_t (S : Snd P0 Z Φ k n) : ∀ Y e t, cT Y (n + 1) e = some t → All P0 Z Φ k (fun X _ W Fo => PG X e (gT Z Fo t)) Y ∧ plainA e = true := by
  intro Y e t h
  cases e with
  | Name x p =>
    simp only [cT] at h
    cases e1 : idx Y.N x with
    | none => rw [e1] at h; cases h
    | some i =>
      rw [e1] at h
      obtain ⟨c, h⟩ := ifs' h
      cases h
      rw [Bool.and_eq_true, Bool.or_eq_true] at c
      refine ⟨fun X W Fo F => dg_nm (pg_name F.nd (by rw [F.N]; exact idx_spec e1) ?_ ?_), rfl⟩
      · show X.env.scope.names.lookup x = some .local ∨ X.env.scope.names.lookup x = some .cell
        rw [F.sc]
        have q := c.1
        unfold locB at q
        split at q <;> first | exact .inl (by assumption) | exact .inr (by assumption) | cases q
      · rcases c.2 with q | q
        · exact .inl (F.fc x q)
        · refine .inr ?_
          rw [F.sc]
          split at q
          · assumption
          · cases q
  | Tuple es j p =>
    simp only [cT] at h
    obtain ⟨ts, h1, rfl⟩ := mpd h
    obtain ⟨a, b, c⟩ := S.ts Y es ts h1
    exact ⟨fun X W Fo F => dg_tp F.K F.calm (a X W Fo F) c (each_len b).1 (each_len b).2.1, rfl⟩
  | _ => simp only [cT] at h; cases h
theorem snd_ts (S : Snd P0 Z Φ k n) : ∀ Y es ts, cTs Y (n + 1) es = some ts → All P0 Z Φ k (fun X _ W Fo => PGs X es (gTs Z Fo ts)) Y ∧ (∀ e ∈ es, plainA e = true) ∧ ts.len = es.length := by
  intro Y es ts h
  cases es with
  | nil =>
    simp only [cTs] at h
    cases h
    exact ⟨fun X W Fo F => dgs_nil, (fun e he => absurd he List.not_mem_nil), rfl⟩
  | cons e es =>
    simp only [cTs] at h
    cases e1 : cT Y n e with
    | none => simp only [e1] at h; cases h
    | some t =>
      cases e2 : cTs Y n es with
      | none => simp only [e1, e2] at h; cases h
      | some r =>
        simp only [e1, e2] at h
        cases h
        obtain ⟨a1, b1⟩ := S.t Y e t e1
        obtain ⟨a2, b2, c2⟩ := S.ts Y es r e2
        have all : ∀ x ∈ e :: es, plainA x = true := fun x hx => by
          rcases List.mem_cons.mp hx with q | q
          · rw [q]; exact b1
          · exact b2 x q
        exact ⟨fun X W Fo F => dgs_cons (a1 X W Fo F) (a2 X W Fo F) ((each_len all).2.2 e es rfl), all, by rw [Tgs.len, c2, List.length_cons]⟩
/-! argument lists -/
theorem snd_x (S : Snd P0 Z Φ k n) : ∀ Y es r, cX P0 Y (n + 1) es = some r → All P0 Z Φ k (fun X _ W Fo => PA X es (tL Z Fo W (evX Φ r))) Y ∧ (∀ e ∈ es, plainA e = true) ∧ ∀ m ds m', evX Φ r m = .ok ds m' → ds.length = es.length := by
  intro Y es r h
  cases es with
  | nil =>
    simp only [cX] at h
    cases h
    exact ⟨fun X W Fo F => pa_nil.imp fun _ _ _ q => rd_nil q, (fun e he => absurd he List.not_mem_nil), fun m ds m' e => by
      cases e; rfl⟩
  | cons e es =>
    simp only [cX] at h
    obtain ⟨c, h⟩ := ifs' h
    obtain ⟨a, h1, h⟩ := bnd h
    obtain ⟨r', h2, rfl⟩ := mpd h
    obtain ⟨a2, b2, c2⟩ := S.x Y es r' h2
    refine ⟨fun X W Fo F => (pa_cons (pe_val (S.e Y e a h1 X W Fo F)) (a2 X W Fo F) (star_cons c)).imp fun _ _ _ q => rd_cons q, fun x hx => ?_, fun m ds m' eq => ?_⟩
    · rcases List.mem_cons.mp hx with q | q
      · rw [q]; exact c
      · exact b2 x q
    · simp only [evX, consM, Mo.bind_at] at eq
      cases e1 : evE Φ a m with
      | no => rw [e1] at eq; cases eq
      | exc x m1 => rw [e1] at eq; cases eq
      | ok d m1 =>
        rw [e1] at eq
        simp only [Res.bind_ok, Mo.bind_at] at eq
        cases e2 : evX Φ r' m1 with
        | no => rw [e2] at eq; cases eq
        | exc x m1 => rw [e2] at eq; cases eq
        | ok ds2 m2 =>
          rw [e2] at eq
          simp only [Res.bind_ok, Mo.ret_at, Res.ok.injEq] at eq
          rw [← eq.1, List.length_cons, List.length_cons, c2 _ _ _ e2]
theorem snd_px (S : Snd P0 Z Φ k n) : ∀ Y e a, cPx P0 Y (n + 1) e = some a → All P0 Z Φ k (fun X _ W Fo => PO X e (tP Z Fo W (evP Φ a))) Y := by
  intro Y e a h X W Fo F
  cases e with
  | none => simp only [cPx] at h; cases h; exact po_none
  | some e =>
    simp only [cPx] at h
    obtain ⟨a', h1, rfl⟩ := mpd h
    exact po_some (pe_val (S.e Y e a' h1 X W Fo F))
theorem snd_pr (S : Snd P0 Z Φ k n) : ∀ Y ks vs r, cPr P0 Y (n + 1) ks vs = some r → All P0 Z Φ k (fun X _ W _ => ∀ pos, PPs X pos ks vs ((evPs Φ r).map fun p => (tEx Z W p.1, tEx Z W p.2))) Y := by
  intro Y ks vs r h X W Fo F pos
  cases ks with
  | nil =>
    cases vs with
    | nil => simp only [cPr] at h; cases h; exact pps_nil
    | cons => simp only [cPr] at h; cases h
  | cons k ks =>
    cases k with
    | none => simp only [cPr] at h; cases h
    | some k =>
      cases vs with
      | nil => simp only [cPr] at h; cases h
      | cons v vs =>
        simp only [cPr] at h
        obtain ⟨a, h1, h⟩ := bnd h
        obtain ⟨b, h2, h⟩ := bnd h
        obtain ⟨r', h3, rfl⟩ := mpd h
        exact pps_cons (pe_x fun Fo => pe_val (S.e Y k a h1 X W Fo F)) (pe_x fun Fo => pe_val (S.e Y v b h2 X W Fo F)) (S.pr Y ks vs r' h3 X W Fo F pos)
/-! truth -/
theorem snd_q (S : Snd P0 Z Φ k n) : ∀ Y o vs a, cQ P0 Y (n + 1) o vs = some a → All P0 Z Φ k (fun X _ W Fo => ∀ p, PW X (.BoolOp o vs p) (tT Z Fo W (evB Φ a))) Y := by
  intro Y o vs a h X W Fo F p
  rcases vs with _ | ⟨e, _ | ⟨f, r⟩⟩
  · simp only [cQ] at h; cases h
  · simp only [cQ] at h
    cases o with
    | And => exact pw_and1 (S.b Y e a h X W Fo F)
    | Or => exact pw_or1 (S.b Y e a h X W Fo F)
  · simp only [cQ] at h
    obtain ⟨x, h1, h⟩ := bnd h
    obtain ⟨y, h2, rfl⟩ := mpd h
    cases o with
    | And => exact dt_and (S.b Y e x h1 X W Fo F) (S.q Y _ _ y h2 X W Fo F p)
    | Or => exact dt_or (S.b Y e x h1 X W Fo F) (S.q Y _ _ y h2 X W Fo F p)
theorem snd_o (S : Snd P0 Z Φ k n) : ∀ Y o vs a, cO P0 Y (n + 1) o vs = some a → All P0 Z Φ k (fun X _ W Fo => ∀ p, PE X (.BoolOp o vs p) (tO Z Fo W (a.opd (evE Φ a)))) Y := by
  intro Y o vs a h X W Fo F p
  rcases vs with _ | ⟨e, _ | ⟨f, r⟩⟩
  · simp only [cO] at h; cases h
  · simp only [cO] at h
    exact ⟨fun pins s σ H Q I q => BoolOp_one ((S.e Y e a h X W Fo F).run pins s σ H Q I q)⟩
  · simp only [cO] at h
    obtain ⟨x, h1, h⟩ := bnd h
    obtain ⟨y, h2, rfl⟩ := mpd h
    cases o with
    | And => exact de_and F.K (pe_val (S.e Y e x h1 X W Fo F)) (pe_val (S.o Y _ _ y h2 X W Fo F p))
    | Or => exact de_or F.K (pe_val (S.e Y e x h1 X W Fo F)) (pe_val (S.o Y _ _ y h2 X W Fo F p))
theorem not_set {e : Expr} (h : notSet e = true) : ∀ es k p, e ≠ .Set es k p := fun es k p z => by rw [z] at h; cases h
theorem snd_b (S : Snd P0 Z Φ k n) : ∀ Y e a, cB P0 Y (n + 1) e = some a → All P0 Z Φ k (fun X _ W Fo => PT X e (tT Z Fo W (evB Φ a))) Y := by
  intro Y e a h X W Fo F
  simp only [cB] at h
  split at h
  · rename_i ea o eb p
    obtain ⟨c, h⟩ := ifs' h
    obtain ⟨x, h1, h⟩ := bnd h
    obtain ⟨y, h2, rfl⟩ := mpd h
    have q := dt_cmp (pos := p) F.K F.w (by have := F.units; omega) (copOf o) (S.e Y _ x h1 X W Fo F) (S.e Y _ y h2 X W Fo F) (not_set c)
    rw [copOf_spec] at q
    exact q
  · exact (S.q Y _ _ a h X W Fo F _).pt
  · obtain ⟨x, h1, rfl⟩ := mpd h
    exact dt_not (S.b Y _ x h1 X W Fo F)
  · obtain ⟨c, h⟩ := ifs' h
    obtain ⟨x, h1, rfl⟩ := mpd h
    exact dt_tru F.K c (S.e Y _ x h1 X W Fo F)
end
end LB

namespace LB
open PySem L2 PyProof.Rows

section
variable {P0 : Prg} {Z : Stc} {Φ : Str → Fn} {k : Nat} {n : Nat}
theorem bi1Of_spec {x : Str} {b : Bi1} (h : bi1Of x = some b) : x = b.nm ∧ ∀ c, b = .isi c → False := by
  have q := List.find?_some h
  have m := List.mem_of_find?_eq_some h
  refine ⟨(of_decide_eq_true q).symm, fun c e => ?_⟩
  subst e
  simp [bi1All] at m
theorem omOf_spec {x : Str} {b : Om} (h : omOf x = some b) : x = b.nm := by
  have q := List.find?_some h
  exact (of_decide_eq_true q).symm
theorem snd_e (S : Snd P0 Z Φ k n) : ∀ Y e a, cE P0 Y (n + 1) e = some a → All P0 Z Φ k (fun X _ W Fo => PE X e (tO Z Fo W (a.opd (evE Φ a)))) Y := by
  intro Y e a h X W Fo F
  simp only [cE] at h
  split at h
  · rename_i b h1
    cases h
    exact S.v Y e _ h1 X W Fo F
  · obtain ⟨x, h1, rfl⟩ := mpd h
    exact pe_frz (S.nw Y e x h1 X W Fo F)
theorem name_ok {Y : Blk} {x : Str} {p : Pos} {a : Ex} {m : Nat} (h : cName P0 Y m x = some a) : All P0 Z Φ k (fun X _ W Fo => PE X (.Name x p) (tO Z Fo W (a.opd (evE Φ a)))) Y := by
  intro X W Fo F
  simp only [cName] at h
  obtain ⟨c, h⟩ := ifs' h
  obtain ⟨d1, d2, d3⟩ := okNm_spec c
  split at h
  · rename_i i e1
    obtain ⟨c2, h⟩ := ifs' h
    cases h
    refine pe_var (by rw [F.N]; exact idx_spec e1) ?_ d1 d2
    unfold Vis
    rw [F.sc]
    unfold visB at c2
    split at c2 <;> first | exact .inl (by assumption) | exact .inr (.inl (by assumption)) | exact .inr (.inr (by assumption)) | cases c2
  · obtain ⟨c2, h⟩ := ifs' h
    obtain ⟨d, h1, rfl⟩ := mpd h
    obtain ⟨v, u, hm, r, dv⟩ := F.st.cs x d h1
    exact pe_k (F.gl c2) hm r dv d1
theorem snd_call (S : Snd P0 Z Φ k n) : ∀ Y x es a, cCall P0 Y (n + 1) x es = some a → All P0 Z Φ k (fun X _ W Fo => ∀ p pos, PE X (.Call (.Name x p) es [] pos) (tO Z Fo W (a.opd (evE Φ a)))) Y := by
  intro Y x es a h X W Fo F p pos
  simp only [cCall] at h
  obtain ⟨c, h⟩ := ifs' h
  rw [Bool.and_eq_true] at c
  obtain ⟨d1, d2, d3⟩ := okNm_spec c.1
  split at h
  · rename_i j e1
    obtain ⟨r, h1, h⟩ := bnd h
    obtain ⟨c2, h⟩ := ifs' h
    cases h
    have c2 : es.length = j := of_decide_eq_true c2
    obtain ⟨f, fd, ps, hl, hm, hk, hb, T⟩ := F.st.fn x j e1
    obtain ⟨a2, b2, l2⟩ := S.x Y es r h1
    have ln : es.length = ps.length := c2.trans hl.symm
    rw [← hl] at T
    cases es with
    | nil =>
      have q := de_call0 (p := p) (pos := pos) (Fo := Fo) T F.rm (F.gl c.2) hm hk hb F.pa (by rw [← ln]; rfl) d1
      have er : r = .nil := by
        cases n with
        | zero => simp only [cX] at h1; cases h1
        | succ n => simp only [cX] at h1; exact (Option.some.inj h1).symm
      subst er
      exact q
    | cons e es => exact de_call T F.rm (F.gl c.2) hm hk hb F.pa (a2 X W Fo F) (fun m ds m' e => (l2 m ds m' e).trans ln) d1 (star_cons (b2 e List.mem_cons_self)) (star_any fun e he => b2 e (List.mem_cons_of_mem _ he))
  · obtain ⟨c2, h⟩ := ifs' h
    obtain ⟨gx, fx⟩ := F.blt c2
    split at h
    · rename_i e
      split at h
      · rename_i b e2
        obtain ⟨c3, h⟩ := ifs' h
        obtain ⟨y, h1, rfl⟩ := mpd h
        obtain ⟨nm, hn⟩ := bi1Of_spec e2
        exact de_bi1 F.K F.calm F.rm.gd F.units b hn nm gx fx (star_cons c3) (S.e Y _ y h1 X W Fo F)
      · cases h
    · rename_i e f
      split at h
      · rename_i c3
        have c3 : x = "isinstance" := of_decide_eq_true c3
        subst c3
        split at h
        · rename_i t p2
          obtain ⟨c4, h⟩ := ifs' h
          rw [Bool.and_eq_true] at c4
          obtain ⟨cl, h1, h⟩ := bnd h
          obtain ⟨y, h2, rfl⟩ := mpd h
          obtain ⟨gt, ft⟩ := F.blt c4.1
          exact de_isi F.K h1 gx fx gt ft (by rw [star_cons c4.2]; rfl) (S.e Y _ y h2 X W Fo F)
        · cases h
      · split at h
        · rename_i c3
          obtain ⟨c4, h⟩ := ifs' h
          rw [Bool.and_eq_true] at c4
          obtain ⟨y, h1, h⟩ := bnd h
          obtain ⟨z, h2, rfl⟩ := mpd h
          rw [Bool.or_eq_true] at c3
          refine de_mn2 (decide (x = "max")) ?_ F.calm gx fx (by rw [star_cons c4.1, star_cons c4.2]; rfl) (by rw [star_cons c4.2]; rfl) (S.e Y _ y h1 X W Fo F) (S.e Y _ z h2 X W Fo F)
          by_cases hx : x = ("max" : Str)
          · rw [decide_eq_true hx, if_pos rfl]; exact hx
          · rw [decide_eq_false hx, if_neg (by decide)]
            rcases c3 with q | q
            · exact of_decide_eq_true q
            · exact absurd (of_decide_eq_true q) hx
        · cases h
    · cases h
theorem snd_meth (S : Snd P0 Z Φ k n) : ∀ Y o m ap es p a, cMeth P0 Y (n + 1) o m ap es p = some a → All P0 Z Φ k (fun X _ W Fo => PE X (.Call (.Attribute o m ap) es [] p) (tO Z Fo W (a.opd (evE Φ a)))) Y := by
  intro Y o m ap es p a h X W Fo F
  simp only [cMeth] at h
  obtain ⟨c, h⟩ := ifs' h
  rw [Bool.and_eq_true] at c
  split at h
  · rename_i om e1
    obtain ⟨c2, h⟩ := ifs' h
    have c2 : es.length < 20 := of_decide_eq_true c2
    obtain ⟨b, h1, h⟩ := bnd h
    obtain ⟨r, h2, rfl⟩ := mpd h
    obtain ⟨a2, b2, l2⟩ := S.x Y es r h2
    cases es with
    | nil =>
      have er : r = .nil := by
        cases n with
        | zero => simp only [cX] at h2; cases h2
        | succ n => simp only [cX] at h2; exact (Option.some.inj h2).symm
      subst er
      exact de_om0 F.K om (omOf_spec e1) (S.e Y o b h1 X W Fo F) (base_plain c.1) c.2
    | cons e es => exact de_om F.K om (omOf_spec e1) (S.e Y o b h1 X W Fo F) (a2 X W Fo F) (base_plain c.1) (star_few b2 c2) c.2 (star_cons (b2 e List.mem_cons_self)) (star_any fun e he => b2 e (List.mem_cons_of_mem _ he))
  · split at h
    · rename_i kx z _
      obtain ⟨c2, h⟩ := ifs' h
      simp only [Bool.and_eq_true, decide_eq_true_eq] at c2
      obtain ⟨⟨e0, p1⟩, p2⟩ := c2
      obtain ⟨b, h1, h⟩ := bnd h
      obtain ⟨y, h2, h⟩ := bnd h
      obtain ⟨w, h3, rfl⟩ := mpd h
      have pl : ∀ e ∈ [kx, z], plainA e = true := fun e he => by
        rcases List.mem_cons.mp he with q | q
        · rw [q]; exact p1
        · rw [List.mem_singleton.mp q]; exact p2
      subst e0
      exact de_dget (by have := F.units; omega) (S.e Y o b h1 X W Fo F) (pe_val (S.e Y kx y h2 X W Fo F)) (pe_val (S.e Y z w h3 X W Fo F)) ⟨base_plain c.1, star_few pl (by show 2 < 20; omega), c.2, by rw [star_cons p1, star_cons p2]; rfl⟩
    · cases h
theorem not_slice {e : Expr} (h : notSlice e = true) : ∀ lo hi p, e ≠ .Slice lo hi none p := fun lo hi p z => by rw [z] at h; cases h
theorem snd_v (S : Snd P0 Z Φ k n) : ∀ Y e a, cV P0 Y (n + 1) e = some a → All P0 Z Φ k (fun X _ W Fo => PE X e (tO Z Fo W (a.opd (evE Φ a)))) Y := by
  intro Y e a h X W Fo F
  simp only [cV] at h
  split at h
  · obtain ⟨d, h1, rfl⟩ := mpd h
    exact constD_ok h1
  · exact name_ok h X W Fo F
  · rename_i ea o eb p
    obtain ⟨b, h1, h⟩ := bnd h
    obtain ⟨x, h2, h⟩ := bnd h
    obtain ⟨y, h3, rfl⟩ := mpd h
    have hx := S.e Y _ x h2 X W Fo F
    have hy := S.e Y _ y h3 X W Fo F
    have q1 := de_bop (pos := p) F.K b hx hy
    have q2 := de_bopN (pos := p) b hx hy
    rw [bopOf_spec h1] at q1 q2
    exact pe_any q1 (pe_frz q2) (bop_or b _ _)
  · obtain ⟨x, h1, rfl⟩ := mpd h
    exact de_neg (S.e Y _ x h1 X W Fo F)
  · obtain ⟨x, h1, rfl⟩ := mpd h
    exact de_inv (S.e Y _ x h1 X W Fo F)
  · obtain ⟨x, h1, rfl⟩ := mpd h
    exact de_not F.K (S.e Y _ x h1 X W Fo F)
  · obtain ⟨x, h1, h⟩ := bnd h
    obtain ⟨y, h2, h⟩ := bnd h
    obtain ⟨z, h3, rfl⟩ := mpd h
    exact de_ite (S.b Y _ x h1 X W Fo F) (pe_val (S.e Y _ y h2 X W Fo F)) (pe_val (S.e Y _ z h3 X W Fo F))
  · exact S.o Y _ _ a h X W Fo F _
  · rename_i ea o eb p
    obtain ⟨c, h⟩ := ifs' h
    obtain ⟨x, h1, h⟩ := bnd h
    obtain ⟨y, h2, rfl⟩ := mpd h
    have q := de_cmp (pos := p) F.K F.w (by have := F.units; omega) (copOf o) (S.e Y _ x h1 X W Fo F) (S.e Y _ y h2 X W Fo F) (not_set c)
    rw [copOf_spec] at q
    exact q
  · obtain ⟨r, h1, rfl⟩ := mpd h
    exact (pe_tup ((S.x Y _ r h1).1 X W Fo F)).imp fun _ _ _ q => rd_tup q
  · split at h
    · exact S.call Y _ _ a h X W Fo F _ _
    · exact S.meth Y _ _ _ _ _ a h X W Fo F
    · cases h
  · split at h
    · obtain ⟨x, h1, h⟩ := bnd h
      obtain ⟨lo, h2, h⟩ := bnd h
      obtain ⟨hi, h3, rfl⟩ := mpd h
      exact pe_any (de_sl F.K (S.e Y _ x h1 X W Fo F) (S.px Y _ lo h2 X W Fo F) (S.px Y _ hi h3 X W Fo F)) (pe_frz (de_slN (S.e Y _ x h1 X W Fo F) (S.px Y _ lo h2 X W Fo F) (S.px Y _ hi h3 X W Fo F))) (sl_or _ _ _)
    · obtain ⟨c, h⟩ := ifs' h
      obtain ⟨x, h1, h⟩ := bnd h
      obtain ⟨y, h2, rfl⟩ := mpd h
      exact de_ix F.K F.w (by have := F.units; omega) (S.e Y _ x h1 X W Fo F) (S.e Y _ y h2 X W Fo F) (not_slice c)
  · cases h
/-- a comprehension's block -/
theorem Fit.blk {X : Cx} {Y : Blk} {W : WX} {scope : Scope} {own : List (Str × Nat)} (F : Fit P0 Z Φ k X Y W) (h : blkC Y.N Y.sc scope own = true) (s : Shared) (H : Hp) (C : Addr) (cl : List (Str × Addr)) (fp : List Addr) :
    Fit P0 Z Φ k (X.blk s H scope (compEnvC scope cl C X.env) fp) (Y.inner scope) noX where
  st := ⟨F.st.free, F.st.fn, F.st.cs⟩
  K := F.K
  w := F.w
  calm := F.calm
  rm := F.rm
  nd := F.nd
  N := F.N
  sc := by
    show relS scope X.env.scope = relS scope Y.sc
    rw [F.sc]
  kd := (blkOk_by h).kind
  fc := fun _ z => z
  pa := fun σ pins H s e s' I c => by
    obtain ⟨_, _, _, _, _, _, _, _, _, _, _, _, z⟩ := c
    exact z.elim
theorem snd_s (S : Snd P0 Z Φ k n) : ∀ Y tg e a, cS P0 Y (n + 1) tg e = some a → All P0 Z Φ k (fun X _ W Fo => PI X tg e (tI Z Fo W (evS Φ a))) Y := by
  intro Y tg e a h X W Fo F
  simp only [cS] at h
  split at h
  · rename_i x p es pos
    split at h
    · rename_i c
      simp only [Bool.and_eq_true, decide_eq_true_eq] at c
      obtain ⟨c1, rfl⟩ := c
      obtain ⟨gx, fx⟩ := F.blt c1
      obtain ⟨c2, h⟩ := ifs' h
      simp only [Bool.and_eq_true, decide_eq_true_eq] at c2
      obtain ⟨r, h1, rfl⟩ := mpd h
      obtain ⟨a2, b2, l2⟩ := S.x Y es r h1
      match es, c2, a2, b2, l2 with
      | [e1], _, a2, b2, l2 => exact di_rng1 gx fx (by rw [star_cons (b2 e1 (by simp))]; rfl) (a2 X W Fo F) l2
      | [e1, e2], _, a2, b2, l2 => exact di_rng2 gx fx (by rw [star_cons (b2 e1 (by simp)), star_cons (b2 e2 (by simp))]; rfl) (by rw [star_cons (b2 e2 (by simp))]; rfl) (a2 X W Fo F) l2
      | [e1, e2, e3], _, a2, b2, l2 => exact di_rng3 gx fx (star_cons (b2 e1 (by simp))) (star_any fun e he => b2 e (List.mem_cons_of_mem _ he)) (a2 X W Fo F) l2
      | [], c2, _, _, _ => exact absurd c2.1 (by simp)
      | _ :: _ :: _ :: _ :: _, c2, _, _, _ => exact absurd c2.2 (by simp)
    · split at h
      · rename_i c
        simp only [Bool.and_eq_true, decide_eq_true_eq, Bool.not_eq_true'] at c
        obtain ⟨⟨c1, rfl⟩, c3⟩ := c
        obtain ⟨gx, fx⟩ := F.blt c1
        split at h
        · rename_i e1
          obtain ⟨r, h1, rfl⟩ := mpd h
          obtain ⟨a2, b2, l2⟩ := S.x Y _ r h1
          cases tg with
          | Tuple elts j tp => exact di_en F.K gx fx (by rw [star_cons (b2 e1 (by simp))]; rfl) (a2 X W Fo F)
          | _ => cases c3
        · cases h
      · split at h
        · rename_i c
          simp only [Bool.and_eq_true, decide_eq_true_eq, Bool.not_eq_true'] at c
          obtain ⟨⟨c1, rfl⟩, c3⟩ := c
          obtain ⟨gx, fx⟩ := F.blt c1
          split at h
          · rename_i e1 e2
            obtain ⟨r, h1, rfl⟩ := mpd h
            obtain ⟨a2, b2, l2⟩ := S.x Y _ r h1
            cases tg with
            | Tuple elts j tp => exact di_zz F.K gx fx (star_cons (b2 e1 (by simp))) (star_any fun e he => b2 e (List.mem_cons_of_mem _ he)) (a2 X W Fo F)
            | _ => cases c3
          · cases h
        · split at h
          · rename_i b h1
            cases h
            exact di_seq F.K (pe_val (S.call Y _ _ b h1 X W Fo F _ _))
          · cases h
  · obtain ⟨b, h1, rfl⟩ := mpd h
    exact di_seq F.K (pe_val (S.e Y _ b h1 X W Fo F))
end
end LB

namespace LB
open PySem L2 PyProof.Rows

section
variable {P0 : Prg} {Z : Stc} {Φ : Str → Fn} {k : Nat} {n : Nat}
theorem zipArgs_spec {e : Expr} {z : Str} {a b : Expr} (h : zipArgs e = some (z, a, b)) : ∃ p pos, e = .Call (.Name z p) [a, b] [] pos := by
  unfold zipArgs at h
  split at h
  · cases h; exact ⟨_, _, rfl⟩
  · cases h
theorem snd_nw (S : Snd P0 Z Φ k n) : ∀ Y e a, cN P0 Y (n + 1) e = some a → All P0 Z Φ k (fun X _ W Fo => PE X e (tN Z Fo W (evN Φ a))) Y := by
  intro Y e a h X W Fo F
  simp only [cN] at h
  split at h
  · obtain ⟨r, h1, rfl⟩ := mpd h
    exact (pe_lst ((S.x Y _ r h1).1 X W Fo F)).imp fun _ _ _ q => rd_lst q
  · rename_i ea o eb p
    obtain ⟨b, h1, h⟩ := bnd h
    obtain ⟨x, h2, h⟩ := bnd h
    obtain ⟨y, h3, rfl⟩ := mpd h
    have q2 := de_bopN (pos := p) b (S.e Y _ x h2 X W Fo F) (S.e Y _ y h3 X W Fo F)
    rw [bopOf_spec h1] at q2
    exact q2
  · rename_i ks vs p
    obtain ⟨c, h⟩ := ifs' h
    simp only [Bool.and_eq_true, decide_eq_true_eq, Bool.not_eq_true'] at c
    obtain ⟨⟨⟨c1, c2⟩, c3⟩, c4⟩ := c
    obtain ⟨r, h1, rfl⟩ := mpd h
    exact de_dct (S.pr Y _ _ r h1 X W Fo F p) c4 c3 (fun z => by rw [z] at c2; cases c2) c1
  · rename_i f p e pos
    replace h := ifs' h
    obtain ⟨c, h⟩ := h
    simp only [Bool.and_eq_true, decide_eq_true_eq] at c
    obtain ⟨c0, c1⟩ := c
    subst c0
    obtain ⟨gx, fx⟩ := F.blt c1
    have one : ∀ {e}, (if plainA e = true then (cE P0 Y n e).map Nx.list else none) = some a → PE X (.Call (.Name "list" p) [e] [] pos) (tN Z Fo W (evN Φ a)) := fun {e} h => by
      obtain ⟨c, h⟩ := ifs' h
      obtain ⟨x, h1, rfl⟩ := mpd h
      exact de_list F.K gx fx (star_cons c) (S.e Y e x h1 X W Fo F)
    cases e1 : zipArgs e with
    | none => rw [e1] at h; exact one h
    | some q =>
      rw [e1] at h
      obtain ⟨z, ea, eb⟩ := q
      obtain ⟨zp, zpos, rfl⟩ := zipArgs_spec e1
      replace h := ifs' h
      obtain ⟨cz, h⟩ := h
      simp only [Bool.and_eq_true, decide_eq_true_eq] at cz
      obtain ⟨cz0, cz1⟩ := cz
      subst cz0
      obtain ⟨gz, fz⟩ := F.blt cz1
      obtain ⟨r, h1, rfl⟩ := mpd h
      obtain ⟨a2, b2, l2⟩ := S.x Y _ r h1
      exact de_lzip F.K F.calm gz fz gx fx (star_cons (b2 ea (by simp))) (star_any fun e he => b2 e (List.mem_cons_of_mem _ he)) (a2 X W Fo F)
  · split at h
    · obtain ⟨x, h1, h⟩ := bnd h
      obtain ⟨lo, h2, h⟩ := bnd h
      obtain ⟨hi, h3, rfl⟩ := mpd h
      exact de_slN (S.e Y _ x h1 X W Fo F) (S.px Y _ lo h2 X W Fo F) (S.px Y _ hi h3 X W Fo F)
    · obtain ⟨x, h1, rfl⟩ := mpd h
      exact de_rev F.K (S.e Y _ x h1 X W Fo F)
    · cases h
  · rename_i le gs scope lpos
    split at h
    · rename_i tg it ifs
      obtain ⟨c, h⟩ := ifs' h
      rw [Bool.and_eq_true] at c
      obtain ⟨s, h1, h⟩ := bnd h
      obtain ⟨t, h2, h⟩ := bnd h
      obtain ⟨y, h3, h⟩ := bnd h
      have ok : BlkOk X.N X.env.scope scope (ownOf Y.N scope) := by rw [F.N, F.sc]; exact blkOk_by c.2
      have pi := S.s Y _ _ s h1 X W Fo F
      have pg := (S.t _ _ t h2).1
      have pe := S.e _ _ y h3
      split at h
      · cases h
        exact de_lc F.calm F.nd pi ok (fun s H C cl fp Fo => pg _ _ Fo (F.blk c.2 s H C cl fp)) (fun s H C cl fp => ⟨fun pins s2 σ2 H2 Q I ⟨Fo2, g, m, G, q⟩ => pts_nil.run pins s2 σ2 H2 Q I (q true H2 g G .rfl' rfl)⟩) (fun s H C cl fp Fo => pe_val (pe _ _ Fo (F.blk c.2 s H C cl fp))) (fold_plain c.1)
      · obtain ⟨b, h4, rfl⟩ := mpd h
        exact de_lc F.calm F.nd pi ok (fun s H C cl fp Fo => pg _ _ Fo (F.blk c.2 s H C cl fp)) (fun s H C cl fp => pts_one (pt_x fun Fo => S.b _ _ b h4 _ _ Fo (F.blk c.2 s H C cl fp))) (fun s H C cl fp Fo => pe_val (pe _ _ Fo (F.blk c.2 s H C cl fp))) (fold_plain c.1)
      · cases h
    · cases h
  · cases h
theorem snd_succ (S : Snd P0 Z Φ k n) : Snd P0 Z Φ k (n + 1) :=
  ⟨snd_e S, snd_v S, snd_o S, snd_x S, snd_px S, snd_call S, snd_meth S, snd_pr S, snd_nw S, snd_s S, snd_b S, snd_q S, snd_t S, snd_ts S⟩
theorem snd_all : ∀ n, Snd P0 Z Φ k n
  | 0 => snd_zero
  | n + 1 => snd_succ (snd_all n)
end
end LB

namespace LB
open PySem L2 PyProof.Rows

section
variable {P0 : Prg} {Z : Stc} {Φ : Str → Fn} {k : Nat} {n : Nat}
theorem nm_at {Y : Blk} {e : Expr} {i : Nat} (h : cT Y n e = some (.nm i)) : ∃ x p, e = .Name x p ∧ idx Y.N x = some i ∧ locB Y.sc x = true ∧ (Y.fnC x = true ∨ Y.sc.names.lookup x = some .local) := by
  cases n with
  | zero => simp only [cT] at h; cases h
  | succ n =>
    cases e with
    | Name x p =>
      simp only [cT] at h
      cases e1 : idx Y.N x with
      | none => rw [e1] at h; cases h
      | some j =>
        rw [e1] at h
        obtain ⟨c, h⟩ := ifs' h
        cases h
        rw [Bool.and_eq_true, Bool.or_eq_true] at c
        refine ⟨x, p, rfl, e1, c.1, c.2.imp_right fun q => ?_⟩
        split at q
        · assumption
        · cases q
    | Tuple es j p =>
      simp only [cT] at h
      obtain ⟨ts, _, h⟩ := mpd h
      cases h
    | _ => simp only [cT] at h; cases h
theorem nm_pg {X : Cx} {Y : Blk} {W : WX} {i : Nat} {x : Str} {p : Pos} (F : Fit P0 Z Φ k X Y W) (e1 : idx Y.N x = some i) (lb : locB Y.sc x = true) (hf : Y.fnC x = true ∨ Y.sc.names.lookup x = some .local) : PG X (.Name x p) (gName i) := by
  refine pg_name F.nd (by rw [F.N]; exact idx_spec e1) ?_ (hf.imp (F.fc x) fun q => by rw [F.sc]; exact q)
  show X.env.scope.names.lookup x = some .local ∨ X.env.scope.names.lookup x = some .cell
  rw [F.sc]
  unfold locB at lb
  split at lb <;> first | exact .inl (by assumption) | exact .inr (by assumption) | cases lb
theorem sw_no {e : Expr} {t : Option Expr} {l : Nat} {env : Env} (h : notComp e = true) : swapsWith e t l env = pure false := by
  cases e <;> first | rfl | cases h
theorem sws_no {e tg : Expr} {l : Nat} {env : Env} (h : notComp e = true) : swapsWithSole [tg] e l env = pure false := sw_no h
theorem st_no {e tg : Expr} {env : Env} (h1 : notTuple tg = true ∨ notTuple e = true) (h2 : ∀ es p, tg ≠ .List es p) : swappedStores [tg] e env = pure none := by
  cases tg with
  | Tuple ts j p =>
    rcases h1 with h | h
    · cases h
    · cases e <;> first | rfl | cases h
  | List ts p => exact absurd rfl (h2 _ _)
  | _ => cases e <;> rfl
theorem t_shape {Y : Blk} {e : Expr} {t : Tg} (h : cT Y n e = some t) : (∃ x p, e = .Name x p) ∨ ∃ es j p, e = .Tuple es j p := by
  cases n with
  | zero => simp only [cT] at h; cases h
  | succ n => cases e with
    | Name x p => exact .inl ⟨x, p, rfl⟩
    | Tuple es j p => exact .inr ⟨es, j, p, rfl⟩
    | _ => simp only [cT] at h; cases h
theorem each_one {tg : Expr} {env : Env} (h : plainA tg = true) : (assignEach [tg] env).map (·.2) = [assign tg env] := by
  cases tg <;> first | rfl | cases h
/-- a comprehension to a name -/
theorem lc_set {Y : Blk} {e : Expr} {gs : List Comprehension} {scope : Scope} {cp : Pos} {nx : Nx} (S : ∀ n, Snd P0 Z Φ k n) (h : cN P0 Y n (.ListComp e gs scope cp) = some nx) {X : Cx} {W : WX} {Fo : Hp} (F : Fit P0 Z Φ k X Y W) {i : Nat} {y : Str} {py spos : Pos} (hi : idx Y.N y = some i)
    (hl : Y.sc.names.lookup y = some .local) (hp : (py.line == cp.line) = true) (ha : (scope.names.any fun (n, k) => n == y && (k == .local || k == .cell)) = false) :
    PS X (.Assign [.Name y py] (.ListComp e gs scope cp) spos) (tS Z Fo W (ownM i (evN Φ nx))) := by
  cases n with
  | zero => simp only [cN] at h; cases h
  | succ n =>
    simp only [cN] at h
    split at h
    · rename_i tg it ifs
      replace h := ifs' h
      obtain ⟨c, h⟩ := h
      rw [Bool.and_eq_true] at c
      obtain ⟨s, h1, h⟩ := bnd h
      obtain ⟨t, h2, h⟩ := bnd h
      obtain ⟨z, h3, h⟩ := bnd h
      have ok : BlkOk X.N X.env.scope scope (ownOf Y.N scope) := by rw [F.N, F.sc]; exact blkOk_by c.2
      have pi := (S n).s Y _ _ s h1 X W Fo F
      have pg := ((S n).t _ _ t h2).1
      have pe := (S n).e _ _ z h3
      have kd : X.env.scope.kind = .function := by rw [F.sc]; exact F.kd
      have lk : X.env.scope.names.lookup y = some .local := by rw [F.sc]; exact hl
      have sw := sw_true (elt := e) (gs := [⟨tg, it, ifs, 0⟩]) (scope := scope) (pos := cp) (py := py) (y := y) (l := spos.line) (env := X.env) kd lk hp ha
      split at h
      · cases h
        exact ds_setLc F.calm F.nd (by rw [F.N]; exact idx_spec hi) lk sw pi ok (fun s H C cl fp Fo => pg _ _ Fo (F.blk c.2 s H C cl fp)) (fun s H C cl fp => ⟨fun pins s2 σ2 H2 Q I ⟨Fo2, g, m, G, q⟩ => pts_nil.run pins s2 σ2 H2 Q I (q true H2 g G .rfl' rfl)⟩) (fun s H C cl fp Fo => pe_val (pe _ _ Fo (F.blk c.2 s H C cl fp))) (fold_plain c.1)
      · obtain ⟨b, h4, rfl⟩ := mpd h
        exact ds_setLc F.calm F.nd (by rw [F.N]; exact idx_spec hi) lk sw pi ok (fun s H C cl fp Fo => pg _ _ Fo (F.blk c.2 s H C cl fp)) (fun s H C cl fp => pts_one (pt_x fun Fo => (S n).b _ _ b h4 _ _ Fo (F.blk c.2 s H C cl fp))) (fun s H C cl fp Fo => pe_val (pe _ _ Fo (F.blk c.2 s H C cl fp))) (fold_plain c.1)
      · cases h
    · cases h
theorem sw_cell {e : Expr} {gs : List Comprehension} {scope : Scope} {cp py : Pos} {y : Str} {l : Nat} {env : Env} (h : env.scope.names.lookup y ≠ some .local) : swapsWith (.ListComp e gs scope cp) (some (.Name y py)) l env = pure false := by
  have ky : (env.kindOf y == some NameKind.local) = false := by
    show (env.scope.names.lookup y == some NameKind.local) = false
    cases q : env.scope.names.lookup y with
    | none => rfl
    | some z => cases z <;> first | rfl | exact absurd q h
  unfold swapsWith
  simp only [ky, Bool.and_false, Bool.false_and]
/-- statements -/
structure SndT (P0 : Prg) (Z : Stc) (Φ : Str → Fn) (k : Nat) (n : Nat) : Prop where
  st : ∀ Y s a, cSt P0 Y n s = some a → ∀ X W Fo, Fit P0 Z Φ k X Y W → PassesOwn (model X.prog X.w) X.A X.env X.xe → PS X s (tS Z Fo W (evT Φ a))
  ss : ∀ Y s a, cSs P0 Y n s = some a → ∀ X W Fo, Fit P0 Z Φ k X Y W → PassesOwn (model X.prog X.w) X.A X.env X.xe → PSs X s (tS Z Fo W (evTs Φ a))
  as : ∀ Y tg e p a, cAs P0 Y n tg e p = some a → ∀ X W Fo, Fit P0 Z Φ k X Y W → PS X (.Assign [tg] e p) (tS Z Fo W (evT Φ a))
theorem sndT_zero : SndT P0 Z Φ k 0 := by
  refine ⟨fun Y s a h => ?_, fun Y s a h => ?_, fun Y tg e p a h => ?_⟩
  · simp only [cSt] at h; cases h
  · simp only [cSs] at h; cases h
  · simp only [cAs] at h; cases h
theorem snd_ss (T : SndT P0 Z Φ k n) : ∀ Y s a, cSs P0 Y (n + 1) s = some a → ∀ X W Fo, Fit P0 Z Φ k X Y W → PassesOwn (model X.prog X.w) X.A X.env X.xe → PSs X s (tS Z Fo W (evTs Φ a)) := by
  intro Y s a h X W Fo F hp
  cases s with
  | nil => simp only [cSs] at h; cases h; exact ds_nil
  | cons s r =>
    simp only [cSs] at h
    obtain ⟨x, h1, h⟩ := bnd h
    obtain ⟨y, h2, rfl⟩ := mpd h
    exact ds_cons (T.st Y s x h1 X W Fo F hp) (T.ss Y r y h2 X W Fo F hp)
theorem snd_st (T : SndT P0 Z Φ k n) : ∀ Y s a, cSt P0 Y (n + 1) s = some a → ∀ X W Fo, Fit P0 Z Φ k X Y W → PassesOwn (model X.prog X.w) X.A X.env X.xe → PS X s (tS Z Fo W (evT Φ a)) := by
  have S := snd_all (P0 := P0) (Z := Z) (Φ := Φ) (k := k)
  intro Y s a h X W Fo F hp
  simp only [cSt] at h
  split at h
  · cases h; exact ds_pass
  · cases h; exact ds_break
  · cases h; exact ds_cont
  · obtain ⟨x, h1, rfl⟩ := mpd h
    exact ds_ret (pe_val ((S n).e Y _ x h1 X W Fo F))
  · cases h; exact ds_retN
  · split at h
    · cases h; exact ds_doc
    · replace h := ifs' h
      obtain ⟨c, h⟩ := h
      obtain ⟨x, h1, rfl⟩ := mpd h
      exact ds_expr (pe_val ((S n).e Y _ x h1 X W Fo F)) (sw_no c)
  · exact T.as Y _ _ _ a h X W Fo F
  · obtain ⟨x, h1, h⟩ := bnd h
    obtain ⟨y, h2, h⟩ := bnd h
    obtain ⟨z, h3, rfl⟩ := mpd h
    exact ds_if ((S n).b Y _ x h1 X W Fo F) (T.ss Y _ y h2 X W Fo F hp) (T.ss Y _ z h3 X W Fo F hp)
  · replace h := ifs' h
    obtain ⟨c, h⟩ := h
    obtain ⟨x, h1, h⟩ := bnd h
    obtain ⟨y, h2, h⟩ := bnd h
    obtain ⟨z, h3, rfl⟩ := mpd h
    exact ds_for hp F.calm ((S n).s Y _ _ x h1 X W Fo F) (((S n).t Y _ y h2).1 X W Fo F) (T.ss Y _ z h3 X W Fo F hp) (fold_plain c)
  · cases h
theorem bop_at {Y : Blk} {ea eb : Expr} {op : Operator} {p : Pos} {o : BOp} {x y : Ex} (h : cN P0 Y n (.BinOp ea op eb p) = some (.bop o x y)) : All P0 Z Φ k (fun X _ W Fo => PE X (.BinOp ea op eb p) (tE Z Fo W (opd2 (x.opd (evE Φ x)) (y.opd (evE Φ y)) (bopM o))) ∧ PE X (.BinOp ea op eb p) (tN Z Fo W (opd2 (x.opd (evE Φ x)) (y.opd (evE Φ y)) (bopN o)))) Y := by
  have S := snd_all (P0 := P0) (Z := Z) (Φ := Φ) (k := k)
  intro X W Fo F
  cases n with
  | zero => simp only [cN] at h; cases h
  | succ n =>
    simp only [cN] at h
    obtain ⟨b, h1, h⟩ := bnd h
    obtain ⟨x', h2, h⟩ := bnd h
    obtain ⟨y', h3, h⟩ := mpd h
    cases h
    have hx := (S n).e Y _ x h2 X W Fo F
    have hy := (S n).e Y _ y h3 X W Fo F
    have q1 := de_bop (pos := p) F.K o hx hy
    have q2 := de_bopN (pos := p) o hx hy
    rw [bopOf_spec h1] at q1 q2
    exact ⟨q1, q2⟩
theorem sl_at {Y : Blk} {ea sl : Expr} {p : Pos} {x : Ex} {lo hi : Px} (h : cN P0 Y n (.Subscript ea sl p) = some (.sl x lo hi)) : All P0 Z Φ k (fun X _ W Fo => PE X (.Subscript ea sl p) (tE Z Fo W (slM (x.opd (evE Φ x)) (evP Φ lo) (evP Φ hi) slDM)) ∧ PE X (.Subscript ea sl p) (tN Z Fo W (slM (x.opd (evE Φ x)) (evP Φ lo) (evP Φ hi) slNM))) Y := by
  have S := snd_all (P0 := P0) (Z := Z) (Φ := Φ) (k := k)
  intro X W Fo F
  cases n with
  | zero => simp only [cN] at h; cases h
  | succ n =>
    simp only [cN] at h
    split at h
    · obtain ⟨x', h1, h⟩ := bnd h
      obtain ⟨lo', h2, h⟩ := bnd h
      obtain ⟨hi', h3, h⟩ := mpd h
      cases h
      exact ⟨de_sl F.K ((S n).e Y _ x h1 X W Fo F) ((S n).px Y _ lo h2 X W Fo F) ((S n).px Y _ hi h3 X W Fo F), de_slN ((S n).e Y _ x h1 X W Fo F) ((S n).px Y _ lo h2 X W Fo F) ((S n).px Y _ hi h3 X W Fo F)⟩
    · obtain ⟨x', h1, h⟩ := mpd h
      cases h
    · cases h
theorem snd_as : ∀ Y tg e p a, cAs P0 Y (n + 1) tg e p = some a → ∀ X W Fo, Fit P0 Z Φ k X Y W → PS X (.Assign [tg] e p) (tS Z Fo W (evT Φ a)) := by
  have S := snd_all (P0 := P0) (Z := Z) (Φ := Φ) (k := k)
  intro Y tg e p a h X W Fo F
  simp only [cAs] at h
  cases ht : cT Y n tg with
  | none => rw [ht] at h; cases h
  | some t =>
    simp only [ht] at h
    have pl := ((S n).t Y tg t ht).2
    have nl : ∀ es p, tg ≠ .List es p := fun es p z => by
      rcases t_shape ht with ⟨_, _, q⟩ | ⟨_, _, _, q⟩ <;> (rw [q] at z; cases z)
    cases nc : notComp e with
    | true =>
      rw [nc, if_pos rfl] at h
      cases tt : (notTuple tg || notTuple e) with
      | false => rw [tt, if_neg (by decide)] at h; cases h
      | true =>
        rw [tt, if_pos rfl] at h
        have val : ∀ b, (cE P0 Y n e).map (fun a => Sx.asg t a) = some b → PS X (.Assign [tg] e p) (tS Z Fo W (evT Φ b)) := fun b hb => by
          obtain ⟨x, h1, rfl⟩ := mpd hb
          exact ds_asg (pe_val ((S n).e Y e x h1 X W Fo F)) (((S n).t Y tg t ht).1 X W Fo F) (sws_no nc) (st_no (by rw [Bool.or_eq_true] at tt; exact tt) nl) (each_one pl)
        have own : ∀ i nx, t = .nm i → cN P0 Y n e = some nx → PS X (.Assign [tg] e p) (tS Z Fo W (evT Φ (.own i nx))) := fun i nx et en => by
          subst et
          obtain ⟨x, q, rfl, e1, lb, hf⟩ := nm_at ht
          exact ds_own (ps_asg ((S n).nw Y e nx en X W Fo F) (nm_pg F e1 lb hf) (sws_no nc) (st_no (.inl rfl) nl) rfl)
        split at h
        · rename_i i nx en
          have en' : cN P0 Y n e = some nx := by
            split at en
            · exact en
            · cases en
          split at h
          · rename_i ea op eb bp
            split at h
            · rename_i o x y
              cases h
              obtain ⟨q1, q2⟩ := bop_at en' X W Fo F
              obtain ⟨xn, q, ex, e1, lb, hf⟩ := nm_at ht
              subst ex
              exact ps_any (ds_own (ps_asg q2 (nm_pg F e1 lb hf) (sws_no nc) (st_no (.inl rfl) nl) rfl)) (ds_asg q1 (dg_nm (nm_pg F e1 lb hf)) (sws_no nc) (st_no (.inl rfl) nl) rfl) (bopS_or i o _ _)
            · cases h
          · rename_i ea sl bp
            split at h
            · rename_i x lo hi
              cases h
              obtain ⟨q1, q2⟩ := sl_at en' X W Fo F
              obtain ⟨xn, q, ex, e1, lb, hf⟩ := nm_at ht
              subst ex
              exact ps_any (ds_own (ps_asg q2 (nm_pg F e1 lb hf) (sws_no nc) (st_no (.inl rfl) nl) rfl)) (ds_asg q1 (dg_nm (nm_pg F e1 lb hf)) (sws_no nc) (st_no (.inl rfl) nl) rfl) (slS_or i _ _ _)
            · cases h
              exact own i _ rfl en'
          · cases h
            exact own i nx rfl en'
        · exact val a h
    | false =>
      rw [nc, if_neg (by decide)] at h
      split at h
      · rename_i i e1 gs scope cp y py
        obtain ⟨nx, en, h⟩ := bnd h
        obtain ⟨x, q, ex, e2, lb, hf⟩ := nm_at ht
        cases ex
        split at h
        · rename_i c
          cases h
          simp only [Bool.and_eq_true, Bool.not_eq_true'] at c
          exact lc_set S en F e2 (of_decide_eq_true c.1.1) c.1.2 c.2
        · split at h
          · rename_i c
            cases h
            have ne : X.env.scope.names.lookup y ≠ some .local := fun z => by
              rw [F.sc] at z
              rw [Bool.not_eq_true', decide_eq_false_iff_not] at c
              exact c z
            exact ds_own (ps_asg ((S n).nw Y _ nx en X W Fo F) (nm_pg F e2 lb hf) (sw_cell (l := p.line) ne) (st_no (.inl rfl) nl) rfl)
          · cases h
      · cases h
theorem sndT_all : ∀ n, SndT P0 Z Φ k n
  | 0 => sndT_zero
  | n + 1 => ⟨snd_st (sndT_all n), snd_ss (sndT_all n), snd_as⟩
end
end LB

namespace LB
open PySem L2 PyProof.Rows PySem.Spec

/-! ### the module's constants, looked at in the written part -/
mutual
def dcB (K : PySem.W.Frag) : Nat → Value → D → Bool
  | 0, _, _ => false
  | n + 1, u, d => match u, d with
    | .none, .non => true
    | .bool b, .bl c => decide (b = c)
    | .int i _, .int j => decide (i = j)
    | .str x _, .str y => decide (x = y)
    | .ref a, .ktp ds => (match K.lookup a with
      | some ⟨.type c, _, .seq its _, _⟩ => decide (c = "tuple") && decide (its.size ≤ sizeLine) && dcsB K n its.toList ds
      | _ => false)
    | _, _ => false
def dcsB (K : PySem.W.Frag) : Nat → List Value → List D → Bool
  | 0, _, _ => false
  | n + 1, us, ds => match us, ds with
    | [], [] => true
    | u :: us, d :: ds => dcB K n u d && dcsB K n us ds
    | _, _ => false
end
def esB (K : PySem.W.Frag) : List DictEntry → List (Str × D) → Bool
  | [], [] => true
  | ⟨_, .str x _, u⟩ :: es, (y, d) :: r => decide (x = y) && dcB K 9 u d && esB K es r
  | _, _ => false
def kdB (K : PySem.W.Frag) (a : Addr) (kvs : List (Str × D)) : Bool := match K.lookup a with
  | some ⟨_, _, .dict es _, _⟩ => esB K es.toList kvs
  | _ => false
/-- a global of the module is a constant -/
def mcB (K : PySem.W.Frag) (x : Str) (d : D) : Bool := match PySem.W.nsIn K mainGlobals x with
  | some (some u) => dcB K 9 u d
  | _ => false
/-- no list among the written things -/
def noLst (K : PySem.W.Frag) : Bool := K.all fun p => match p.2.cls with
  | .type c => !decide (c = "list")
  | _ => true
theorem noLst_ok {K : PySem.W.Frag} (h : noLst K = true) {a : Addr} {o : Obj} (e : K.lookup a = some o) : o.cls ≠ .type "list" := fun z => by
  have q := List.all_eq_true.mp h (a, o) (He.lookup_mem e)
  simp only [z, decide_true, Bool.not_true] at q
  cases q
section
variable {K : PySem.W.Frag} {w : World} {mg : Str → Option Value}
mutual
theorem dcB_ok : ∀ (n : Nat) (u : Value) (d : D), dcB K n u d = true → ∃ v, RelV v u ∧ ∀ G μ N, DV ⟨K, w, mg⟩ G μ N d v
  | 0, _, _, h => by simp only [dcB] at h; cases h
  | n + 1, u, d, h => by
    simp only [dcB] at h
    split at h
    · exact ⟨.non, rfl, fun _ _ _ => .non⟩
    · have e := of_decide_eq_true h; subst e; exact ⟨.bl _, rfl, fun _ _ _ => .bl _⟩
    · have e := of_decide_eq_true h; subst e; exact ⟨.int _, ⟨_, rfl⟩, fun _ _ _ => .int _⟩
    · have e := of_decide_eq_true h; subst e; exact ⟨.str _, ⟨_, rfl⟩, fun _ _ _ => .str _⟩
    · rename_i a ds
      split at h
      · rename_i c od its m sl e1
        simp only [Bool.and_eq_true, decide_eq_true_eq] at h
        obtain ⟨⟨h1, h2⟩, h3⟩ := h
        subst h1
        obtain ⟨vs, rv, rd⟩ := dcsB_ok n its.toList ds h3
        exact ⟨.ref a, rfl, fun G μ N => .ktp (.inr ⟨_, its, m, e1, rfl, rfl, h2, rv⟩) (rd G μ N)⟩
      · cases h
    · cases h
theorem dcsB_ok : ∀ (n : Nat) (us : List Value) (ds : List D), dcsB K n us ds = true → ∃ vs, Vals vs us ∧ ∀ G μ N, DVs ⟨K, w, mg⟩ G μ N ds vs
  | 0, _, _, h => by simp only [dcsB] at h; cases h
  | n + 1, us, ds, h => by
    simp only [dcsB] at h
    split at h
    · exact ⟨[], .nil, fun _ _ _ => .nil⟩
    · rename_i u us d ds
      rw [Bool.and_eq_true] at h
      obtain ⟨v, rv, rd⟩ := dcB_ok n u d h.1
      obtain ⟨vs, rvs, rds⟩ := dcsB_ok n us ds h.2
      exact ⟨v :: vs, .cons rv rvs, fun G μ N => .cons (rd G μ N) (rds G μ N)⟩
    · cases h
end
theorem esB_ok : ∀ (es : List DictEntry) (kvs : List (Str × D)), esB K es kvs = true → ∀ G μ N, DVe ⟨K, w, mg⟩ G μ N kvs es
  | [], [], _ => fun _ _ _ => .nil
  | ⟨h, .str x t, u⟩ :: es, (y, d) :: r, e => fun G μ N => by
    simp only [esB, Bool.and_eq_true, decide_eq_true_eq] at e
    obtain ⟨⟨rfl, e2⟩, e3⟩ := e
    obtain ⟨v, rv, rd⟩ := dcB_ok (w := w) (mg := mg) 9 u d e2
    exact .cons rv (rd G μ N) (esB_ok es r e3 G μ N)
  | [], _ :: _, e => by simp [esB] at e
  | ⟨_, k, _⟩ :: _, [], e => by cases k <;> simp [esB] at e
  | ⟨h, .none, u⟩ :: es, (y, d) :: r, e => by simp [esB] at e
  | ⟨h, .bool _, u⟩ :: es, (y, d) :: r, e => by simp [esB] at e
  | ⟨h, .int _ _, u⟩ :: es, (y, d) :: r, e => by simp [esB] at e
  | ⟨h, .float _ _, u⟩ :: es, (y, d) :: r, e => by simp [esB] at e
  | ⟨h, .ref _, u⟩ :: es, (y, d) :: r, e => by simp [esB] at e
  | ⟨h, .bytes _ _, u⟩ :: es, (y, d) :: r, e => by simp [esB] at e
  | ⟨h, .type _, u⟩ :: es, (y, d) :: r, e => by simp [esB] at e
  | ⟨h, .builtin _, u⟩ :: es, (y, d) :: r, e => by simp [esB] at e
  | ⟨h, .ellipsis, u⟩ :: es, (y, d) :: r, e => by simp [esB] at e
  | ⟨h, .notImplemented, u⟩ :: es, (y, d) :: r, e => by simp [esB] at e
end

/-! ### the defs, level by level -/
structure DefR where
  x : Str
  ps : List Str
  N : List Str
  ar : Arguments
  body : List Stmt
  scope : Scope
  b : Sxs
def noF : Fn := fun _ => Mo.no
def lev (ds : List DefR) : Nat → Str → Fn
  | 0, _ => noF
  | k + 1, x => match ds.find? fun d => decide (d.x = x) with
    | some d => bodyF d.N.length (evTs (lev ds k) d.b)
    | none => noF
def fnsOf (ds : List DefR) : List (Str × Nat) := ds.map fun d => (d.x, d.ps.length)
theorem fns_at {x : Str} {n : Nat} : ∀ {ds : List DefR}, (fnsOf ds).lookup x = some n → ∃ d ∈ ds, d.x = x ∧ d.ps.length = n ∧ (ds.find? fun d => decide (d.x = x)) = some d
  | [], h => by cases h
  | d :: ds, h => by
    have h' : ((d.x, d.ps.length) :: fnsOf ds).lookup x = some n := h
    rw [List.lookup_cons] at h'
    by_cases e : d.x = x
    · have b : (x == d.x) = true := by rw [e]; exact beq_self_eq_true x
      rw [b] at h'
      exact ⟨d, List.mem_cons_self, e, Option.some.inj h', by rw [List.find?_cons, decide_eq_true e]⟩
    · have b : (x == d.x) = false := by
        cases q : x == d.x with
        | false => rfl
        | true => exact absurd (eq_of_beq q).symm e
      rw [b] at h'
      obtain ⟨d', m, r⟩ := fns_at h'
      refine ⟨d', List.mem_cons_of_mem _ m, r.1, r.2.1, ?_⟩
      rw [List.find?_cons, decide_eq_false e]
      exact r.2.2
/-- a def's text has the plain form d.b -/
structure DefR.Ok (P0 : Prg) (d : DefR) : Prop where
  n : ∃ n, cSs P0 ⟨d.N, d.scope, fun _ => true⟩ n d.body = some d.b
  sc : FnScope d.N d.ps d.scope
section
variable {P : Program} {w : World} {K : PySem.W.Frag} {mg : Str → Option Value} {base : Heap} {P0 : Prg} {ds : List DefR}
theorem lev_ok (hfree : ∀ x ∈ P0.free, mg x = none) (hcs : ∀ x d, P0.cs.lookup x = some d → ∃ v u, mg x = some u ∧ RelV v u ∧ ∀ G μ N, DV ⟨K, w, mg⟩ G μ N d v) (hfn : P0.fns = fnsOf ds) (hok : ∀ d ∈ ds, d.Ok P0)
    (hd : ∀ d ∈ ds, ∃ f fd, FunD K d.x d.x d.ar d.body d.scope [] [] f fd ∧ mg d.x = some (.ref f) ∧ Binds K fd d.ps []) : ∀ (k : Nat) (x : Str) (n : Nat), P0.fns.lookup x = some n →
    ∃ f fd ps, ps.length = n ∧ mg x = some (.ref f) ∧ PySem.W.keepIn K (.ref f) = true ∧ Binds K fd ps [] ∧ FnG P w K mg base k f fd ps (spF ⟨K, w, mg⟩ n (lev ds k x)) := by
  intro k
  induction k with
  | zero =>
    intro x n h
    rw [hfn] at h
    obtain ⟨d, m, ex, el, _⟩ := fns_at h
    obtain ⟨f, fd, F, hm, hb⟩ := hd d m
    exact ⟨f, fd, d.ps, el, ex ▸ hm, F.kp, hb, fun vs H Q E ⟨_, _, _, _, q, _⟩ => q.trans el.symm, fun A outer s H args us vs Q E _ _ _ _ ⟨_, _, _, _, _, _, _, q⟩ => q.elim⟩
  | succ k ih =>
    intro x n h
    have h2 := h
    rw [hfn] at h2
    obtain ⟨d, m, ex, el, fd0⟩ := fns_at h2
    obtain ⟨f, fd, F, hm, hb⟩ := hd d m
    refine ⟨f, fd, d.ps, el, ex ▸ hm, F.kp, hb, ?_⟩
    have le : lev ds (k + 1) x = bodyF d.N.length (evTs (lev ds k) d.b) := by
      show (match ds.find? fun d => decide (d.x = x) with | some d => bodyF d.N.length (evTs (lev ds k) d.b) | none => noF) = _
      rw [fd0]
    rw [le, ← el]
    obtain ⟨nn, hc⟩ := (hok d m).n
    have Sc := (hok d m).sc
    obtain ⟨oc, od, dV, kV, doc, pm, an, cdv, ct, osl, rfl, lk, hcd, _, _⟩ := F.ex
    refine fn_at ⟨K, w, mg⟩ lk hcd Sc fun A outer s H E Fo rm => ?_
    have fit : Fit P0 ⟨K, w, mg⟩ (lev ds k) k (cxOf (L2.CX P w) P w K mg base d.N d.x d.scope f cdv A outer s H E) ⟨d.N, d.scope, fun _ => true⟩ (fun cls dd _ H => E cls dd H) :=
      ⟨⟨hfree, fun x n h => ih x n h, hcs⟩, rfl, rfl, rfl, rm, Sc.nd, rfl, rfl, Sc.kind, fun _ _ => rfl, passAt (takes_of rfl rfl rfl rfl)⟩
    exact (sndT_all nn).ss _ _ _ hc _ _ Fo fit (passes_of rfl)
/-- the same of one def, at the function object that is at hand -/
theorem lev_at (hfree : ∀ x ∈ P0.free, mg x = none) (hcs : ∀ x d, P0.cs.lookup x = some d → ∃ v u, mg x = some u ∧ RelV v u ∧ ∀ G μ N, DV ⟨K, w, mg⟩ G μ N d v) (hfn : P0.fns = fnsOf ds) (hok : ∀ d ∈ ds, d.Ok P0)
    (hd : ∀ d ∈ ds, ∃ f fd, FunD K d.x d.x d.ar d.body d.scope [] [] f fd ∧ mg d.x = some (.ref f) ∧ Binds K fd d.ps []) (k : Nat) {d : DefR} (m : d ∈ ds) (hx : (ds.find? fun e => decide (e.x = d.x)) = some d) {f : Addr} {fd : FuncData} (F : FunD K d.x d.x d.ar d.body d.scope [] [] f fd) :
    FnG P w K mg base (k + 1) f fd d.ps (spF ⟨K, w, mg⟩ d.ps.length (lev ds (k + 1) d.x)) := by
  have le : lev ds (k + 1) d.x = bodyF d.N.length (evTs (lev ds k) d.b) := by
    show (match ds.find? fun e => decide (e.x = d.x) with | some d => bodyF d.N.length (evTs (lev ds k) d.b) | none => noF) = _
    rw [hx]
  rw [le]
  obtain ⟨nn, hc⟩ := (hok d m).n
  have Sc := (hok d m).sc
  obtain ⟨oc, od, dV, kV, doc, pm, an, cdv, ct, osl, rfl, lk, hcd, _, _⟩ := F.ex
  refine fn_at ⟨K, w, mg⟩ lk hcd Sc fun A outer s H E Fo rm => ?_
  have fit : Fit P0 ⟨K, w, mg⟩ (lev ds k) k (cxOf (L2.CX P w) P w K mg base d.N d.x d.scope f cdv A outer s H E) ⟨d.N, d.scope, fun _ => true⟩ (fun cls dd _ H => E cls dd H) :=
    ⟨⟨hfree, fun x n h => lev_ok hfree hcs hfn hok hd k x n h, hcs⟩, rfl, rfl, rfl, rm, Sc.nd, rfl, rfl, Sc.kind, fun _ _ => rfl, passAt (takes_of rfl rfl rfl rfl)⟩
  exact (sndT_all nn).ss _ _ _ hc _ _ Fo fit (passes_of rfl)
theorem look_in {x : Str} {d : D} : ∀ {l : List (Str × D)}, l.lookup x = some d → (x, d) ∈ l
  | [], h => by cases h
  | (y, e) :: r, h => by
    rw [List.lookup_cons] at h
    cases q : x == y with
    | true =>
      rw [q] at h
      rw [eq_of_beq q, ← Option.some.inj h]
      exact List.mem_cons_self
    | false =>
      rw [q] at h
      exact List.mem_cons_of_mem _ (look_in h)
/-! ### the law itself -/
theorem ints_vals : ∀ {vs : List Value} {ns : List Int}, IntsAre vs ns → Vals (ns.map V.int) vs
  | _, _, .nil => .nil
  | _, _, .cons n t h => .cons ⟨t, rfl⟩ (ints_vals h)
theorem ints_dvs {Z : Stc} {G : Hp} {μ : Nat → Addr} {N : Nat} : ∀ ns : List Int, DVs Z G μ N (ns.map .int) (ns.map V.int)
  | [] => .nil
  | i :: r => .cons (.int i) (ints_dvs r)
theorem lawG {mb : Str → Option Value} {k : Nat} {fa a : Addr} {fd : FuncData} {x : Str} {F : Fn} {s1 : Shared} {vs : List Value} {ns : List Int}
    (KX : K.In s1.heap) (hns : s1.heap.Ns mainGlobals mg) (hb : s1.heap.Ns builtinsNs mb) (hbb : ∀ x : Str, x ≠ "__name__" → mb x = bootBuiltins x) (nl : s1.heap.NoLimit) (hg : s1.gens = #[]) (hno : noLst K = true)
    (ha : s1.heap.get? a = some { cls := .type "list", data := .seq vs.toArray }) (hi : IntsAre vs ns) (hl : ns.length ≤ sizeLine) (rm : RoomG k callerA)
    (T : ∀ base : Heap, K.In base → base.Ns mainGlobals mg → FnG P w K mg base k fa fd [x] (spF ⟨K, w, mg⟩ 1 F)) (hbind : ∀ (s : Shared) (u : Value), BindsTo s fd ⟨[u], []⟩ [(x, u)])
    (law : ∃ m, F [.lst (ns.map .int)] ⟨[], []⟩ = .ok (.bl true) m) :
    codeAny (model P w) callerA (.call (.ref fa) ⟨[.ref a], []⟩) (fun r s' => r = .ok (.ret (.bool true)) ∧ OldK s1.heap s'.heap ∧ s'.os = s1.os ∧ AllBare s'.gens) s1 := by
  have rv := ints_vals hi
  have hk : K.lookup a = none := by
    cases q : K.lookup a with
    | none => rfl
    | some o =>
      have e := KX a o q
      rw [ha] at e
      cases e
      exact absurd rfl (noLst_ok hno q)
  -- the script alone is tracked, as it stands
  let fz : HO := .frz { cls := .type "list", data := .seq vs.toArray } (.lst (ns.map V.int))
  let H : Hp := fun b => if b = a then some fz else none
  have Ha : H a = some fz := if_pos rfl
  have Hn : ∀ {b : Addr}, b ≠ a → H b = none := fun n => if_neg n
  have only : ∀ {b : Addr} {u : HO}, H b = some u → b = a ∧ u = fz := fun {b u} e => by
    by_cases c : b = a
    · subst c; rw [Ha] at e; exact ⟨rfl, (Option.some.inj e).symm⟩
    · rw [Hn c] at e; cases e
  have hok : HOk P w H s1.heap := fun b u e => by
    obtain ⟨rfl, rfl⟩ := only e
    exact ⟨ha, by show (ns.map V.int).length ≤ sizeLine; rw [List.length_map]; exact hl, vs, _, rv, ha⟩
  have dictN : ∀ {b : Addr} {o : Obj} {es : Array DictEntry} {ep : Nat}, s1.heap.get? b = some o → o.data = .dict es ep → H b = none := fun {b o es ep} e d => by
    by_cases c : b = a
    · subst c
      rw [ha] at e
      cases e
      cases d
    · exact Hn c
  have nsB : ∀ {b : Addr} {m : Str → Option Value}, s1.heap.Ns b m → (hidT s1.heap H).Ns b m := fun {b m} ⟨o, es, ep, e, d, r⟩ => ⟨o, es, ep, hidT_get e (dictN e d), d, r⟩
  have KB : K.In (hidT s1.heap H) := fun b o e => hidT_get (KX b o e) (Hn fun z => by rw [z, hk] at e; cases e)
  have M : Mod K mg (hidT s1.heap H) := ⟨KB, nsB hns, ⟨mb, nsB hb, hbb⟩, let ⟨mc, q1, q2⟩ := nl; ⟨mc, nsB q1, q2⟩⟩
  have e0 : Env0 P w K mg (hidT s1.heap H) callerA [] s1 H := ⟨rfl, M, fun b o e => of_hidT e, Nat.le_of_eq (hidT_size _ _), trivial, fun b hb => absurd hb List.not_mem_nil, hok, .of_eq hg⟩
  let g0 : Gh := ⟨H, fun _ => 0, fun _ => none⟩
  have G0 : GoodS ⟨K, w, mg⟩ (fun _ => none) g0 [] H := ⟨fun _ _ e => e, fun _ _ e => (nomatch e), fun n o e => (by cases e), fun _ _ e => (nomatch e)⟩
  have sp : spF ⟨K, w, mg⟩ 1 F [.ref a] H (fun v _ => v = .bl true) fun _ _ _ => False := by
    refine ⟨fun _ => none, g0, [], [.lst (ns.map .int)], rfl, G0, .cons (.lst (.inr ⟨_, Ha⟩) (ints_dvs ns)) .nil, ?_⟩
    obtain ⟨m, e⟩ := law
    rw [e]
    intro v H' g' _ _ r
    cases r
    rfl
  refine codeAny_mono ((T _ KB (nsB hns)).go callerA [] s1 H ⟨[.ref a], []⟩ [.ref a] [.ref a] _ _ rm e0 (hbind s1 (.ref a)) (.cons rfl .nil) sp) fun r s' h => ?_
  match r, h with
  | .error e, h =>
    obtain ⟨_, _, _, _, _, _, _, _, _, _, _, _, z⟩ := h
    exact z.elim
  | .ok (.ret u), h =>
    obtain ⟨v, H', os, bare, un, hok', r', q⟩ := h
    have q : v = .bl true := q
    subst q
    obtain rfl : u = Value.bool true := r'
    refine ⟨rfl, OldK.of_keep fun b o e => ?_, os, bare⟩
    by_cases c : b = a
    · subst c
      have z := un.frzs b _ _ Ha
      rw [ha] at e
      cases e
      exact (hok' b _ z).1
    · exact un.keep b o e (Hn c) List.not_mem_nil List.not_mem_nil
theorem walkG {l : PySem.W.OpenLaw} {n k : Nat} {q : Program} {loose : List Str} {XP : (Str → Option Value) → Heap → Prop} {YP : World → Heap → Prop} {d : DefRec} {x : Str}
    (hn : l.most = some n) (hn2 : n ≤ sizeLine) (hdf : d.params.defaults = []) (rm : RoomG k callerA)
    (T : ∀ (w : World) (mg : Str → Option Value) (fa : Addr) (h : Heap), YP w h → h.Ns mainGlobals mg → mg d.name = some (.ref fa) →
      ∃ (K : PySem.W.Frag) (fd : FuncData) (F : Fn), K.In h ∧ noLst K = true ∧ (∀ (s : Shared) (u : Value), BindsTo s fd ⟨[u], []⟩ [(x, u)]) ∧ (∀ ns : List Int, ns.length ≤ n → ∃ m, F [.lst (ns.map .int)] ⟨[], []⟩ = .ok (.bl true) m) ∧
        ∀ base : Heap, K.In base → base.Ns mainGlobals mg → FnG l.prog w K mg base k fa fd [x] (spF ⟨K, w, mg⟩ 1 F)) :
    PySem.W.WalkO q loose XP YP l.row.toRowW d [] (fun f vs => PySem.call f vs) :=
  Att.attach_call hn hdf fun w s₀ s₁ mg mb fa o pm cd doc a vs ns G Y ho hd hcd hmg hobj hints hlen hg => by
    obtain ⟨K, fd, F, KX, hno, hb, law, hT⟩ := T w mg fa _ Y G.T.g hmg
    exact lawG KX G.T.g G.T.b G.T.builtins G.T.nolimit hg hno hobj hints (Nat.le_trans hlen hn2) rm hT hb (law ns hlen)
end
end LB

namespace LB
open PySem L2 PyProof.Rows

/-! ### plain reckoning: single steps -/
theorem trunc_self (l : List D) (S : List SO) : trunc S.length l S = S := by
  unfold trunc
  split
  · exact List.take_length
  · rfl
section
variable (m : Mst)
theorem look_non : look m .non = .non := rfl
theorem look_bl (b : Bool) : look m (.bl b) = .bl b := rfl
theorem look_int (i : Int) : look m (.int i) = .int i := rfl
theorem look_str (x : Str) : look m (.str x) = .str x := rfl
theorem look_tup (l : List D) : look m (.tup l) = .tup l := rfl
theorem look_lst (l : List D) : look m (.lst l) = .lst l := rfl
theorem look_ktp (l : List D) : look m (.ktp l) = .ktp l := rfl
theorem look_dct (t : Bool) (l : List (D × D)) : look m (.dct t l) = .dct t l := rfl
theorem look_kdc (l : List (Str × D)) : look m (.kdc l) = .kdc l := rfl
variable (i j : Int)
theorem add_int : bopMN .add (.int i) (.int j) m = .ok (.int (i + j)) m := rfl
theorem sub_int : bopMN .sub (.int i) (.int j) m = .ok (.int (i - j)) m := rfl
theorem mul_int (h : MulOk i j) : bopMN .mul (.int i) (.int j) m = .ok (.int (i * j)) m := by
  show (if MulOk i j then Res.ok (D.int (i * j)) m else Res.no) = _
  rw [if_pos h]
theorem mod_int (h : 0 < j) : bopMN .mod (.int i) (.int j) m = .ok (.int (i % j)) m := by
  show (if 0 < j then Res.ok (D.int (i % j)) m else Res.no) = _
  rw [if_pos h]
theorem fdiv_int (h : 0 < j) (h2 : j < 1073741824) : bopMN .fdiv (.int i) (.int j) m = .ok (.int (i / j)) m := by
  show (if DivOk j then Res.ok (D.int (i / j)) m else Res.no) = _
  rw [if_pos ⟨h, .inl h2⟩]
theorem pow_int (h : PowOk i j) : bopMN .pow (.int i) (.int j) m = .ok (.int (i ^ j.toNat)) m := by
  show (if PowOk i j then Res.ok (D.int (i ^ j.toNat)) m else Res.no) = _
  rw [if_pos h]
theorem add_lst (x y : List D) (h : x.length + y.length ≤ sizeLine) : bopMN .add (.lst x) (.lst y) m = .ok (.lst (x ++ y)) m := by
  show (match (if x.length + y.length ≤ sizeLine then Res.ok (Ob.lst (x ++ y)) m else Res.no) with | .ok b m => Res.ok b.d m | _ => bopM .add (.lst x) (.lst y) m) = _
  rw [if_pos h]
  rfl
theorem add_tup (x y : List D) (h : x.length + y.length ≤ sizeLine) : bopMN .add (.tup x) (.tup y) m = .ok (.tup (x ++ y)) m := by
  show (if x.length + y.length ≤ sizeLine then Res.ok (D.tup (x ++ y)) m else Res.no) = _
  rw [if_pos h]
theorem addS_int : bopS .add (.int i) (.int j) m = .ok (.inl (.int (i + j))) m := rfl
theorem mulS_int (h : MulOk i j) : bopS .mul (.int i) (.int j) m = .ok (.inl (.int (i * j))) m := by
  show (match (if MulOk i j then Res.ok (D.int (i * j)) m else Res.no) with | .ok d m => Res.ok (Sum.inl d : D ⊕ Ob) m | .exc x m => .exc x m | .no => .no) = _
  rw [if_pos h]
theorem modS_int (h : 0 < j) : bopS .mod (.int i) (.int j) m = .ok (.inl (.int (i % j))) m := by
  show (match (if 0 < j then Res.ok (D.int (i % j)) m else Res.no) with | .ok d m => Res.ok (Sum.inl d : D ⊕ Ob) m | .exc x m => .exc x m | .no => .no) = _
  rw [if_pos h]
theorem fdivS_int (h : 0 < j) (h2 : j < 1073741824) : bopS .fdiv (.int i) (.int j) m = .ok (.inl (.int (i / j))) m := by
  show (match (if DivOk j then Res.ok (D.int (i / j)) m else Res.no) with | .ok d m => Res.ok (Sum.inl d : D ⊕ Ob) m | .exc x m => .exc x m | .no => .no) = _
  rw [if_pos ⟨h, .inl h2⟩]
theorem addS_tup (x y : List D) (h : x.length + y.length ≤ sizeLine) : bopS .add (.tup x) (.tup y) m = .ok (.inl (.tup (x ++ y))) m := by
  show (match (if x.length + y.length ≤ sizeLine then Res.ok (D.tup (x ++ y)) m else Res.no) with | .ok d m => Res.ok (Sum.inl d : D ⊕ Ob) m | .exc x m => .exc x m | .no => .no) = _
  rw [if_pos h]
theorem addS_lst (x y : List D) (h : x.length + y.length ≤ sizeLine) : bopS .add (.lst x) (.lst y) m = .ok (.inr (.lst (x ++ y))) m := by
  show (match (if x.length + y.length ≤ sizeLine then Res.ok (Ob.lst (x ++ y)) m else Res.no) with | .ok b m => Res.ok (Sum.inr b : D ⊕ Ob) m | _ => (match bopM .add (.lst x) (.lst y) m with | .ok d m => Res.ok (Sum.inl d : D ⊕ Ob) m | .exc x m => .exc x m | .no => .no)) = _
  rw [if_pos h]
end
/-! ### operands -/
theorem ex_v (i : Nat) (f : Mo D) : (Ex.v i).opd f = (some i, .no) := rfl
section
variable {γ : Type} (op : D → Mo γ) (op2 : D → D → Mo γ) (i j : Nat) (f g h h' : Mo D) (m : Mst)
theorem o1_v : opd1 (some i, h) op m = match pkV i m with
    | some d => op (look m d) m
    | none => .no := by
  unfold opd1
  simp only [Opd.pre, Opd.get]
  cases e : pkV i m <;> simp [e]
theorem o1_e : opd1 (none, f) op m = (f m).bind fun d m => op (look m d) m := by
  unfold opd1
  simp only [Opd.pre, Opd.get]
theorem o2_vv : opd2 (some i, h) (some j, h') op2 m = match pkV i m, pkV j m with
    | some d, some e => op2 (look m d) (look m e) m
    | _, _ => .no := by
  unfold opd2
  simp only [Opd.pre, Opd.get]
  cases e : pkV i m <;> cases e2 : pkV j m <;> simp [e, e2]
theorem o2_ee : opd2 (none, f) (none, g) op2 m = (f m).bind fun d m => (g m).bind fun e m => op2 (look m d) (look m e) m := by
  unfold opd2
  simp only [Opd.pre, Opd.get]
theorem o2_ev : opd2 (none, f) (some j, h) op2 m = (f m).bind fun d m => match pkV j m with
    | some e => op2 (look m d) (look m e) m
    | none => .no := by
  unfold opd2
  simp only [Opd.pre, Opd.get]
  congr 1
  funext d m
  cases e : pkV j m <;> simp [e]
theorem o2_ve (d : D) (e : D) (m' : Mst) (q : g m = .ok e m') (p1 : pkV i m = some d) : opd2 (some i, h) (none, g) op2 m = match pkV i m' with
    | some d => op2 (look m' d) (look m' e) m'
    | none => .no := by
  unfold opd2
  simp only [Opd.pre, Opd.get, p1, q, Res.bind_ok]
  cases e : pkV i m' <;> simp [e]
end
/-! ### bounds -/
/-- less than 2 ^ a -/
def Bd (a : Nat) (i : Int) : Prop := i.natAbs < 2 ^ a
instance (a : Nat) (i : Int) : Decidable (Bd a i) := by unfold Bd; infer_instance
theorem Bd.up {a c : Nat} {i : Int} (h : Bd a i) (h1 : a ≤ c) : Bd c i := Nat.lt_of_lt_of_le h (Nat.pow_le_pow_right (by omega) h1)
theorem Bd.add {a b c : Nat} {i j : Int} (h : Bd a i) (k : Bd b j) (h1 : a < c) (h2 : b < c) : Bd c (i + j) := by
  unfold Bd at *
  have q1 : (2 : Nat) ^ a ≤ 2 ^ (c - 1) := Nat.pow_le_pow_right (by omega) (by omega)
  have q2 : (2 : Nat) ^ b ≤ 2 ^ (c - 1) := Nat.pow_le_pow_right (by omega) (by omega)
  have q3 : (2 : Nat) ^ c = 2 * 2 ^ (c - 1) := by rw [← Nat.pow_succ']; congr 1; omega
  have q4 := Int.natAbs_add_le i j
  omega
theorem Bd.mul {a b c : Nat} {i j : Int} (h : Bd a i) (k : Bd b j) (h1 : a + b ≤ c) : Bd c (i * j) := by
  unfold Bd at *
  rw [Int.natAbs_mul]
  have q := Nat.mul_lt_mul'' h k
  rw [← Nat.pow_add] at q
  exact Nat.lt_of_lt_of_le q (Nat.pow_le_pow_right (by omega) h1)
theorem Bd.ok {a b : Nat} {i j : Int} (h : Bd a i) (k : Bd b j) (h1 : a ≤ 4000) (h2 : b ≤ 4000) : MulOk i j :=
  .inr ⟨Nat.lt_of_lt_of_le h (Nat.pow_le_pow_right (by omega) h1), Nat.lt_of_lt_of_le k (Nat.pow_le_pow_right (by omega) h2)⟩
theorem Bd.of {a : Nat} {i : Int} (h : 0 ≤ i) (k : i < 2 ^ a) : Bd a i := by
  unfold Bd
  have e : ((2 : Nat) ^ a : Nat) = ((2 : Int) ^ a) := by push_cast; rfl
  omega
end LB

namespace LB
open PySem L2 PyProof.Rows

/-! ### data of a bounded size -/
structure Tm (n B : Nat) (d : D) : Prop where
  lay : d.toP.canLay0 = true
  dep : d.toP.depth ≤ n
  shw : d.toP.showable = true
  len : d.toP.shown.length ≤ B
  txt : PyData.strOk d.toP.shown = true
theorem strOk_app {x y : Str} (h : PyData.strOk x = true) (k : PyData.strOk y = true) : PyData.strOk (x ++ y) = true := by
  unfold PyData.strOk at *
  show (x.cps ++ y.cps).all (· < 0x110000) = true
  rw [Array.all_append, h, k]
  rfl
theorem strOk_join {sep : Str} (hs : PyData.strOk sep = true) : ∀ {l : List Str}, (∀ t ∈ l, PyData.strOk t = true) → PyData.strOk (Str.join sep l) = true
  | [], _ => (by decide +kernel : PyData.strOk (Str.join "" []) = true)
  | [t], h => h t List.mem_cons_self
  | t :: u :: r, h => by
    show PyData.strOk (t ++ sep ++ Str.join sep (u :: r)) = true
    exact strOk_app (strOk_app (h t List.mem_cons_self) hs) (strOk_join hs fun x hx => h x (List.mem_cons_of_mem _ hx))
theorem Tm.up {n B n' B' : Nat} {d : D} (h : Tm n B d) (h1 : n ≤ n') (h2 : B ≤ B') : Tm n' B' d := ⟨h.lay, Nat.le_trans h.dep h1, h.shw, Nat.le_trans h.len h2, h.txt⟩
theorem Tm.shaped {n B : Nat} {d : D} (h : Tm n B d) (hn : n ≤ 64) : SeqAt.shaped d.toP = true := by
  unfold SeqAt.shaped
  rw [h.lay, decide_eq_true (Nat.le_trans h.dep hn)]
  rfl
mutual
theorem eqv_same : ∀ p : PyData, p.canLay0 = true → PyData.eqv p p = true
  | .none, _ => by simp only [PyData.eqv]
  | .bool b, _ => by simp only [PyData.eqv, beq_self_eq_true]
  | .int i, _ => by simp only [PyData.eqv, beq_self_eq_true]
  | .str x, _ => by simp only [PyData.eqv, beq_self_eq_true]
  | .list xs, h => by
    simp only [PyData.canLay0] at h
    simp only [PyData.eqv]
    exact eqvAll_same xs h
  | .tuple xs, h => by
    simp only [PyData.canLay0] at h
    simp only [PyData.eqv]
    exact eqvAll_same xs h
  | .dict _, h => by simp only [PyData.canLay0] at h; cases h
theorem eqvAll_same : ∀ xs : List PyData, PyData.canLayAll0 xs = true → PyData.eqvAll xs xs = true
  | [], _ => by simp only [PyData.eqvAll]
  | x :: xs, h => by
    simp only [PyData.canLayAll0, Bool.and_eq_true] at h
    simp only [PyData.eqvAll, eqv_same x h.1, eqvAll_same xs h.2, Bool.and_self]
end
theorem Tm.eq_same {n B : Nat} {d : D} (h : Tm n B d) (hn : n ≤ 64) : eqD d d = some true := by
  unfold eqD
  rw [h.shaped hn, Bool.and_self, if_pos rfl, eqv_same _ h.lay]
theorem Tm.rep {n B : Nat} {d : D} (h : Tm n B d) (hn : n ≤ 64) (hB : B ≤ 16777216) : repD d = some d.toP.shown := by
  unfold repD
  rw [h.shaped hn, h.shw, decide_eq_true (Nat.le_trans h.len (by rw [sizeLine_eq]; exact hB))]
  rfl
def TmAll (n B : Nat) (l : List D) : Prop := ∀ d ∈ l, Tm n B d
theorem tmAll_txt {n B : Nat} : ∀ {l : List D}, TmAll n B l → ∀ t ∈ PyData.shownAll (D.toPs l), PyData.strOk t = true
  | [], _, t, h => by simp [D.toPs, PyData.shownAll] at h
  | d :: l, h, t, ht => by
    simp only [D.toPs, PyData.shownAll, List.mem_cons] at ht
    rcases ht with z | z
    · rw [z]; exact (h d List.mem_cons_self).txt
    · exact tmAll_txt (l := l) (fun x hx => h x (List.mem_cons_of_mem _ hx)) t z
theorem Tm.str_same {n B : Nat} {d : D} (h : Tm n B d) : eqD (.str d.toP.shown) (.str d.toP.shown) = some true := by
  have lay : (D.str d.toP.shown).toP.canLay0 = true := by simp only [D.toP, PyData.canLay0]; exact h.txt
  unfold eqD SeqAt.shaped
  rw [lay]
  simp only [D.toP, PyData.depth, Nat.zero_le, decide_true, Bool.and_self, if_true]
  exact congrArg some (eqv_same _ lay)
theorem tmAll_toPs {n B : Nat} : ∀ {l : List D}, TmAll n B l → PyData.canLayAll0 (D.toPs l) = true ∧ PyData.depthAll (D.toPs l) ≤ n ∧ PyData.showableAll (D.toPs l) = true ∧ ((PyData.shownAll (D.toPs l)).map (·.length)).sum ≤ l.length * B ∧ (PyData.shownAll (D.toPs l)).length = l.length
  | [], _ => by simp [D.toPs, PyData.canLayAll0, PyData.depthAll, PyData.showableAll, PyData.shownAll]
  | d :: l, h => by
    have h1 := h d List.mem_cons_self
    obtain ⟨a, b, c, e, f⟩ := tmAll_toPs (l := l) fun x hx => h x (List.mem_cons_of_mem _ hx)
    simp only [D.toPs, PyData.canLayAll0, PyData.depthAll, PyData.showableAll, PyData.shownAll, h1.lay, a, h1.shw, c, Bool.and_self, List.map_cons, List.sum_cons, List.length_cons, f, true_and, and_true]
    refine ⟨Nat.max_le.mpr ⟨h1.dep, b⟩, ?_⟩
    have := h1.len
    rw [Nat.succ_mul]
    omega
theorem Tm.tup {n B L : Nat} {l : List D} (h : TmAll n B l) (hl : l.length ≤ L) : Tm (n + 1) (L * B + 2 * L + 3) (.tup l) := by
  obtain ⟨a, b, c, e, f⟩ := tmAll_toPs h
  refine ⟨by simp only [D.toP, PyData.canLay0]; exact a, by simp only [D.toP, PyData.depth]; omega, by simp only [D.toP, PyData.showable]; exact c, ?_, ?_⟩
  case refine_2 =>
    simp only [D.toP, PyData.shown]
    unfold tupleText
    refine strOk_app (strOk_app (by decide +kernel) (strOk_join (by decide +kernel) (tmAll_txt h))) ?_
    split
    · exact (by decide +kernel : PyData.strOk (",)" : Str) = true)
    · exact (by decide +kernel : PyData.strOk (")" : Str) = true)
  simp only [D.toP, PyData.shown]
  unfold tupleText
  have j := StrLaws.join_length_le ", " (PyData.shownAll (D.toPs l))
  have s2 : (", " : Str).length = 2 := by decide +kernel
  have s1 : ("(" : Str).length = 1 := by decide +kernel
  have s3 : (((if (PyData.shownAll (D.toPs l)).length == 1 then ",)" else ")") : String) : Str).length ≤ 2 := by
    split
    · exact (by decide +kernel : ((",)" : Str)).length ≤ 2)
    · exact (by decide +kernel : ((")" : Str)).length ≤ 2)
  rw [strLen_append, strLen_append, s1]
  rw [s2, f] at j
  have q := Nat.mul_le_mul_right B hl
  omega
theorem Tm.lst0 {n B : Nat} {l : List D} (h : TmAll n B l) (hn : n + 1 ≤ 64) : eqD (.lst l) (.lst l) = some true := by
  obtain ⟨a, b, c, e, f⟩ := tmAll_toPs h
  have lay : (D.lst l).toP.canLay0 = true := by simp only [D.toP, PyData.canLay0]; exact a
  have dep : (D.lst l).toP.depth ≤ 64 := by simp only [D.toP, PyData.depth]; omega
  unfold eqD SeqAt.shaped
  rw [lay, decide_eq_true dep]
  simp only [Bool.and_self, if_true, eqv_same _ lay]
theorem tm_small : ∀ i : Int, 0 ≤ i → i < 100 → Tm 0 2 (.int i) := by
  have key : ∀ k : Fin 100, (toString (k.val : Int) : Str).length ≤ 2 := by decide +kernel
  have key2 : ∀ k : Fin 100, PyData.strOk (toString (k.val : Int) : Str) = true := by decide +kernel
  intro i h1 h2
  obtain ⟨k, rfl⟩ := Int.eq_ofNat_of_zero_le h1
  refine ⟨rfl, Nat.le_refl _, ?_, ?_, ?_⟩
  case refine_3 =>
    simp only [D.toP, PyData.shown]
    exact key2 ⟨k, by omega⟩
  · simp only [D.toP, PyData.showable, decide_eq_true_eq]
    have : ((k : Int)).natAbs.log2 ≤ 7 := by
      have q : (k : Int).natAbs = k := rfl
      rw [q]
      by_cases z : k = 0
      · subst z; decide
      · exact Nat.le_of_lt_succ ((Nat.log2_lt z).mpr (by omega))
    omega
  · simp only [D.toP, PyData.shown]
    exact key ⟨k, by omega⟩
theorem tm_non : Tm 0 4 .non := ⟨rfl, Nat.le_refl _, rfl, by decide +kernel, by decide +kernel⟩
/-! ### a loop by what holds ahead of each turn -/
theorem forL_by {t : Tg} {b : Mo Fl} (I : List D → Mst → Prop) (h : ∀ d ds m, I (d :: ds) m → ∃ ρ m', bindT t d m.ρ = some ρ ∧ b ⟨ρ, m.S⟩ = .ok .nx m' ∧ I ds m') : ∀ (ds : List D) (m : Mst), I ds m → ∃ m', forL t b ds m = .ok .nx m' ∧ I [] m'
  | [], m, i => ⟨m, rfl, i⟩
  | d :: ds, m, i => by
    obtain ⟨ρ, m', e1, e2, i'⟩ := h d ds m i
    obtain ⟨m2, e3, i2⟩ := forL_by I h ds m' i'
    refine ⟨m2, ?_, i2⟩
    have e2' : b { m with ρ := ρ } = .ok .nx m' := e2
    simp only [forL, e1, e2', Res.bind_ok]
    exact e3
end LB

namespace LB
open PySem L2 PyProof.Rows
def top (i : Nat) : Stmt := PySem.Challenge.pw_likebeats_k03_steps_read.main.body.getD i (.Pass ⟨0, 0, 0, 0⟩)
def b_parts_of : Sxs := (.cons (.ret (.b1 .tuple (.nw (.lc (.zz (.cons (.ix (.mc (.kdc [("set", (.str "sn")), ("copy", (.str "sr")), ("add", (.str "srr")), ("sub", (.str "srr")), ("less", (.str "srr")), ("same", (.str "srr")), ("mix", (.str "srr")), ("pick", (.str "srrr")), ("times", (.str "srr")), ("parts", (.str "srr")), ("take", (.str "str")), ("put", (.str "trr")), ("touch", (.str "tr")), ("tell", (.str "r")), ("idle", (.str "m")), ("if", (.str "raa")), ("round", (.str "ga")), ("turn", (.str "ra"))])) (.ix (.v 0) (.k (.int 0)))) (.cons (.sl (.v 0) (.some (.k (.int 1))) .no) .nil))) (.tp (.cons (.nm 2) (.cons (.nm 3) .nil))) [2, 3] (.cmp .eq (.v 2) (.v 1)) (.v 3))))) .nil)
def d_parts_of : DefR := ⟨"parts_of", ["step", "sort"], ["step", "sort", "own", "part"], defArgs (top 5), defBody (top 5), defScope (top 5), b_parts_of⟩
def b_reads : Sxs := (.cons (.ret (.call "parts_of" (.cons (.v 0) (.cons (.mc (.str "r")) .nil)))) .nil)
def d_reads : DefR := ⟨"reads", ["step"], ["step"], defArgs (top 6), defBody (top 6), defScope (top 6), b_reads⟩
def b_sets : Sxs := (.cons (.asg (.nm 1) (.call "parts_of" (.cons (.v 0) (.cons (.mc (.str "s")) .nil)))) (.cons (.ret (.ite (.cmp .ne (.v 1) (.tup .nil)) (.ix (.v 1) (.k (.int 0))) (.k .non))) .nil))
def d_sets : DefR := ⟨"sets", ["step"], ["step", "found"], defArgs (top 7), defBody (top 7), defScope (top 7), b_sets⟩
def b_table_of : Sxs := (.cons (.asg (.nm 1) (.call "parts_of" (.cons (.v 0) (.cons (.mc (.str "t")) .nil)))) (.cons (.ret (.ite (.cmp .ne (.v 1) (.tup .nil)) (.ix (.v 1) (.k (.int 0))) (.k .non))) .nil))
def d_table_of : DefR := ⟨"table_of", ["step"], ["step", "found"], defArgs (top 8), defBody (top 8), defScope (top 8), b_table_of⟩
def b__law_mixed : Sxs := (.cons (.setb 2 .mod (.ix (.bop .add (.v 0) (.nw (.lst (.cons (.k (.int 0)) .nil)))) (.bop .mod (.v 1) (.mn2 true (.k (.int 1)) (.b1 .len (.v 0))))) (.bop .pow (.k (.int 10)) (.k (.int 60)))) (.cons (.setb 3 .add (.k (.int 91520834467120936671528473920164857)) (.bop .mul (.k (.int 2)) (.v 1))) (.cons (.ret (.bop .mod (.bop .mul (.bop .add (.bop .add (.v 2) (.k (.int 1))) (.bop .mul (.bop .mul (.k (.int 1009)) (.v 1)) (.v 1))) (.v 3)) (.k (.int 170141183460469231731687303715884105727)))) .nil)))
def d__law_mixed : DefR := ⟨"_law_mixed", ["_law_script", "_law_k"], ["_law_script", "_law_k", "_law_cell", "_law_times"], defArgs (top 10), defBody (top 10), defScope (top 10), b__law_mixed⟩
def b__law_turned : Sxs := (.cons (.asg (.nm 2) (.ix (.nw (.lst (.cons (.k (.int 73029184756102938475610293847561029)) (.cons (.k (.int 58203947561830297465018273645019283)) .nil)))) (.bop .mod (.v 1) (.k (.int 2))))) (.cons (.ifs (.cmp .gt (.bop .mod (.v 1) (.k (.int 4))) (.k (.int 1))) (.cons (.asg (.nm 2) (.ix (.nw (.lst (.cons (.k (.int 99182736455463728190019283746556473)) (.cons (.k (.int 31415926535897932384626433832795029)) .nil)))) (.bop .mod (.v 1) (.k (.int 2))))) .nil) .nil) (.cons (.ret (.bop .mod (.bop .mul (.bop .add (.bop .add (.v 0) (.k (.int 1))) (.bop .mul (.bop .mul (.k (.int 5081)) (.v 1)) (.v 1))) (.v 2)) (.k (.int 170141183460469231731687303715884105727)))) .nil)))
def d__law_turned : DefR := ⟨"_law_turned", ["_law_number", "_law_k"], ["_law_number", "_law_k", "_law_times"], defArgs (top 11), defBody (top 11), defScope (top 11), b__law_turned⟩
def b__law_form : Sxs := (.cons (.own 1 (.dct (.cons (.k (.str "set")) (.k (.str "sn")) (.cons (.k (.str "copy")) (.k (.str "sr")) (.cons (.k (.str "add")) (.k (.str "srr")) (.cons (.k (.str "sub")) (.k (.str "srr")) (.cons (.k (.str "less")) (.k (.str "srr")) (.cons (.k (.str "same")) (.k (.str "srr")) (.cons (.k (.str "mix")) (.k (.str "srr")) .nil))))))))) (.cons (.expr (.om .update (.v 1) (.cons (.nw (.dct (.cons (.k (.str "pick")) (.k (.str "srrr")) (.cons (.k (.str "times")) (.k (.str "srr")) (.cons (.k (.str "parts")) (.k (.str "srr")) (.cons (.k (.str "take")) (.k (.str "str")) (.cons (.k (.str "put")) (.k (.str "trr")) (.cons (.k (.str "touch")) (.k (.str "tr")) .nil)))))))) .nil))) (.cons (.expr (.om .update (.v 1) (.cons (.nw (.dct (.cons (.k (.str "tell")) (.k (.str "r")) (.cons (.k (.str "idle")) (.k (.str "m")) (.cons (.k (.str "if")) (.k (.str "raa")) (.cons (.k (.str "round")) (.k (.str "ga")) (.cons (.k (.str "turn")) (.k (.str "ra")) .nil))))))) .nil))) (.cons (.ret (.dget (.v 1) (.v 0) (.k .non))) .nil))))
def d__law_form : DefR := ⟨"_law_form", ["_law_word"], ["_law_word", "_law_some"], defArgs (top 12), defBody (top 12), defScope (top 12), b__law_form⟩
def b__law_words : Sxs := (.cons (.own 0 (.lst (.cons (.k (.str "set")) (.cons (.k (.str "turn")) (.cons (.k (.str "copy")) (.cons (.k (.str "take")) (.cons (.k (.str "add")) (.cons (.k (.str "if")) (.cons (.k (.str "sub")) (.cons (.k (.str "put")) (.cons (.k (.str "less")) (.cons (.k (.str "same")) (.cons (.k (.str "mix")) (.cons (.k (.str "round")) (.cons (.k (.str "pick")) .nil))))))))))))))) (.cons (.ret (.bop .add (.v 0) (.nw (.lst (.cons (.k (.str "times")) (.cons (.k (.str "touch")) (.cons (.k (.str "parts")) (.cons (.k (.str "tell")) (.cons (.k (.str "idle")) .nil))))))))) .nil))
def d__law_words : DefR := ⟨"_law_words", [], ["_law_some"], defArgs (top 13), defBody (top 13), defScope (top 13), b__law_words⟩
def l1__law_step : Sxs := (.cons (.asg (.nm 7) (.call "_law_turned" (.cons (.v 1) (.cons (.v 5) .nil)))) (.cons (.ifs (.cmp .eq (.v 6) (.k (.str "a"))) (.cons (.expr (.om .append (.v 4) (.cons (.call "_law_steps" (.cons (.v 7) (.cons (.bop .add (.k (.int 1)) (.bop .mod (.bop .fdiv (.v 7) (.k (.int 3))) (.k (.int 4)))) (.cons (.v 2) (.cons (.bop .sub (.v 3) (.k (.int 1))) .nil))))) .nil))) .nil) (.cons (.ifs (.cmp .isin (.v 6) (.k (.str "sr"))) (.cons (.expr (.om .append (.v 4) (.cons (.ix (.v 2) (.bop .mod (.bop .fdiv (.v 7) (.k (.int 5))) (.b1 .len (.v 2)))) .nil))) .nil) (.cons (.expr (.om .append (.v 4) (.cons (.bop .add (.bop .mod (.bop .fdiv (.v 7) (.k (.int 7))) (.ix (.nw (.dct (.cons (.k (.str "n")) (.k (.int 16)) (.cons (.k (.str "t")) (.k (.int 4)) (.cons (.k (.str "m")) (.k (.int 60)) (.cons (.k (.str "g")) (.k (.int 15)) .nil)))))) (.v 6))) (.b1 .int (.cmp .isin (.v 6) (.k (.str "mg"))))) .nil))) .nil)) .nil)) .nil))
def b__law_step : Sxs := (.cons (.own 4 (.lst .nil)) (.cons (.for (.en (.cons (.call "_law_form" (.cons (.v 0) .nil)) .nil)) (.tp (.cons (.nm 5) (.cons (.nm 6) .nil))) l1__law_step) (.cons (.ret (.bop .add (.tup (.cons (.v 0) .nil)) (.b1 .tuple (.v 4)))) .nil)))
def d__law_step : DefR := ⟨"_law_step", ["_law_word", "_law_number", "_law_boxes_here", "_law_deep"], ["_law_word", "_law_number", "_law_boxes_here", "_law_deep", "_law_parts", "_law_k", "_law_sort", "_law_more"], defArgs (top 14), defBody (top 14), defScope (top 14), b__law_step⟩
def l1__law_steps : Sxs := (.cons (.asg (.nm 6) (.call "_law_turned" (.cons (.v 0) (.cons (.bop .add (.k (.int 3)) (.v 5)) .nil)))) (.cons (.expr (.om .append (.v 4) (.cons (.call "_law_step" (.cons (.ix (.call "_law_words" .nil) (.bop .mod (.bop .fdiv (.v 6) (.k (.int 3))) (.k (.int 18)))) (.cons (.call "_law_turned" (.cons (.v 6) (.cons (.k (.int 1)) .nil))) (.cons (.v 2) (.cons (.v 3) .nil))))) .nil))) .nil))
def b__law_steps : Sxs := (.cons (.own 4 (.lst .nil)) (.cons (.for (.rng (.cons (.ite (.cmp .gt (.v 3) (.k (.int 0))) (.v 1) (.k (.int 0))) .nil)) (.nm 5) l1__law_steps) (.cons (.ret (.b1 .tuple (.v 4))) .nil)))
def d__law_steps : DefR := ⟨"_law_steps", ["_law_number", "_law_many", "_law_boxes_here", "_law_deep"], ["_law_number", "_law_many", "_law_boxes_here", "_law_deep", "_law_found", "_law_k", "_law_more"], defArgs (top 15), defBody (top 15), defScope (top 15), b__law_steps⟩
def b__law_boxes : Sxs := (.cons (.ret (.nw (.lc (.seq (.tup (.cons (.k (.int 0)) (.cons (.k (.int 13)) (.cons (.k (.int 7)) (.cons (.k (.int 27)) (.cons (.k (.int 18)) .nil))))))) (.nm 1) [1] .yes (.bop .mod (.bop .add (.bop .fdiv (.v 0) (.k (.int 3))) (.v 1)) (.k (.int 32)))))) .nil)
def d__law_boxes : DefR := ⟨"_law_boxes", ["_law_seed"], ["_law_seed", "_law_step_here"], defArgs (top 16), defBody (top 16), defScope (top 16), b__law_boxes⟩
def l1__law_paths : Sxs := (.cons (.setb 2 .add (.v 2) (.call "_law_paths" (.cons (.v 8) (.cons (.bop .add (.v 5) (.tup (.cons (.v 7) .nil))) .nil)))) .nil)
def l2__law_paths : Sxs := (.cons (.setb 5 .add (.v 1) (.tup (.cons (.v 3) .nil))) (.cons (.expr (.om .append (.v 2) (.cons (.tup (.cons (.v 5) (.cons (.v 4) .nil))) .nil))) (.cons (.own 6 (.lc (.zz (.cons (.call "_law_form" (.cons (.ix (.v 4) (.k (.int 0))) .nil)) (.cons (.sl (.v 4) (.some (.k (.int 1))) .no) .nil))) (.tp (.cons (.nm 9) (.cons (.nm 10) .nil))) [9, 10] (.cmp .eq (.v 9) (.k (.str "a"))) (.v 10))) (.cons (.for (.en (.cons (.v 6) .nil)) (.tp (.cons (.nm 7) (.cons (.nm 8) .nil))) l1__law_paths) .nil))))
def b__law_paths : Sxs := (.cons (.own 2 (.lst .nil)) (.cons (.for (.en (.cons (.v 0) .nil)) (.tp (.cons (.nm 3) (.cons (.nm 4) .nil))) l2__law_paths) (.cons (.ret (.v 2)) .nil)))
def d__law_paths : DefR := ⟨"_law_paths", ["_law_steps_here", "_law_ahead"], ["_law_steps_here", "_law_ahead", "_law_found", "_law_number", "_law_step_here", "_law_path", "_law_arms", "_law_arm", "_law_inner", "_law_sort", "_law_part"], defArgs (top 17), defBody (top 17), defScope (top 17), b__law_paths⟩
def l1_law : Sxs := (.cons (.asg (.nm 13) (.call "reads" (.cons (.v 8) .nil))) (.cons (.ifs (.or (.nt (.tru (.isi "tuple" (.v 13)))) (.cmp .ne (.nw (.list (.v 13))) (.nw (.lc (.seq (.v 10)) (.tp (.cons (.nm 15) (.cons (.nm 16) .nil))) [15, 16] (.cmp .eq (.v 15) (.k (.str "r"))) (.v 16))))) (.cons (.ret (.k (.bl false))) .nil) .nil) (.cons (.ifs (.or (.cmp .ne (.nw (.lst (.cons (.call "sets" (.cons (.v 8) .nil)) (.cons (.call "table_of" (.cons (.v 8) .nil)) .nil)))) (.v 11)) (.cmp .ne (.b1 .repr (.v 8)) (.v 9))) (.cons (.ret (.k (.bl false))) .nil) .nil) .nil)))
def l2_law : Sxs := (.cons (.asg (.nm 5) (.call "_law_turned" (.cons (.v 2) (.cons (.v 3) .nil)))) (.cons (.own 6 (.lst (.cons (.call "_law_boxes" (.cons (.v 5) .nil)) (.cons (.nw (.lst (.cons (.bop .mod (.bop .fdiv (.v 5) (.k (.int 3))) (.k (.int 32))) .nil))) (.cons (.nw (.lc (.rng (.cons (.k (.int 32)) .nil)) (.nm 14) [14] .yes (.bop .mod (.bop .add (.bop .fdiv (.v 5) (.k (.int 3))) (.v 14)) (.k (.int 32))))) .nil))))) (.cons (.asg (.nm 7) (.ix (.v 6) (.bop .mod (.bop .fdiv (.v 5) (.k (.int 7))) (.k (.int 3))))) (.cons (.asg (.nm 8) (.call "_law_step" (.cons (.v 4) (.cons (.call "_law_turned" (.cons (.v 5) (.cons (.k (.int 1)) .nil))) (.cons (.v 7) (.cons (.k (.int 2)) .nil)))))) (.cons (.asg (.nm 9) (.b1 .repr (.v 8))) (.cons (.own 10 (.lzip (.cons (.call "_law_form" (.cons (.v 4) .nil)) (.cons (.sl (.v 8) (.some (.k (.int 1))) .no) .nil)))) (.cons (.own 11 (.lst (.cons (.ix (.bop .add (.nw (.lc (.seq (.v 10)) (.tp (.cons (.nm 15) (.cons (.nm 16) .nil))) [15, 16] (.cmp .eq (.v 15) (.k (.str "s"))) (.v 16))) (.nw (.lst (.cons (.k .non) .nil)))) (.k (.int 0))) .nil))) (.cons (.expr (.om .append (.v 11) (.cons (.ix (.bop .add (.nw (.lc (.seq (.v 10)) (.tp (.cons (.nm 15) (.cons (.nm 16) .nil))) [15, 16] (.cmp .eq (.v 15) (.k (.str "t"))) (.v 16))) (.nw (.lst (.cons (.k .non) .nil)))) (.k (.int 0))) .nil))) (.cons (.for (.rng (.cons (.k (.int 2)) .nil)) (.nm 12) l1_law) .nil)))))))))
def l3_law : Sxs := (.cons (.asg (.nm 2) (.call "_law_mixed" (.cons (.v 0) (.cons (.v 1) .nil)))) (.cons (.for (.en (.cons (.call "_law_words" .nil) .nil)) (.tp (.cons (.nm 3) (.cons (.nm 4) .nil))) l2_law) .nil))
def b_law : Sxs := (.cons (.for (.rng (.cons (.bop .add (.k (.int 1)) (.mn2 false (.k (.int 30)) (.b1 .len (.v 0)))) .nil)) (.nm 1) l3_law) (.cons (.ret (.k (.bl true))) .nil))
def d_law : DefR := ⟨"law", ["_law_script"], ["_law_script", "_law_k", "_law_number", "_law_place", "_law_word", "_law_more", "_law_some", "_law_boxes_here", "_law_step_here", "_law_kept", "_law_pairs", "_law_due", "_law_turn", "_law_read", "_law_j", "_law_sort", "_law_part"], defArgs (top 18), defBody (top 18), defScope (top 18), b_law⟩
def ds : List DefR := [d_parts_of, d_reads, d_sets, d_table_of, d__law_mixed, d__law_turned, d__law_form, d__law_words, d__law_step, d__law_steps, d__law_boxes, d__law_paths, d_law]
theorem at_turned (k : Nat) : lev ds (k + 1) "_law_turned" = bodyF 3 (evTs (lev ds k) b__law_turned) := by kernel_rfl
theorem turned_ok (k : Nat) (n j : Int) (S : List SO) (hn : 0 ≤ n) (hn2 : n < 2 ^ 200) (hj : 0 ≤ j) (hj2 : j < 1000) : ∃ v, lev ds (k + 1) "_law_turned" [.int n, .int j] ⟨[], S⟩ = .ok (.int v) ⟨[], S⟩ ∧ 0 ≤ v ∧ v < 2 ^ 127 := by
  rw [at_turned]
  unfold bodyF b__law_turned
  have bj : Bd 10 j := .of hj (by omega)
  have bn : Bd 200 n := .of hn hn2
  have b1 : Bd 23 (5081 * j) := Bd.mul (a := 13) (b := 10) (by decide) bj (by decide)
  have b2 : Bd 210 (n + 1 + 5081 * j * j) := Bd.add (Bd.add bn (b := 1) (by decide) (c := 201) (by decide) (by decide)) (Bd.mul b1 bj (c := 33) (by decide)) (by decide) (by decide)
  have m1 := mul_int (h := Bd.ok (a := 13) (i := 5081) (by decide) bj (by decide) (by decide))
  have m2 := mul_int (h := Bd.ok b1 bj (by decide) (by decide))
  have m3 : ∀ (t : Int), Bd 200 t → ∀ m, bopMN .mul (.int (n + 1 + 5081 * j * j)) (.int t) m = .ok (.int ((n + 1 + 5081 * j * j) * t)) m := fun t ht m => mul_int m _ _ (Bd.ok b2 ht (by decide) (by decide))
  have h2 : j % 2 = 0 ∨ j % 2 = 1 := by omega
  have h4 : (decide (1 < j % 4)) = true ∨ (decide (1 < j % 4)) = false := by cases decide (1 < j % 4) <;> simp
  have fin : ∀ x : Int, 0 ≤ x % 170141183460469231731687303715884105727 ∧ x % 170141183460469231731687303715884105727 < 170141183460469231731687303715884105728 := fun x => by omega
  rcases h2 with h2 | h2 <;> rcases h4 with h4 | h4
  all_goals simp [evTs, evT, evE, evX, evN, evB, Ex.opd, asgM, iffM, seqS, retM, skipM, o1_v, o1_e, o2_vv, o2_ee, o2_ev, opd2, Opd.pre, Opd.get, pkV, look_int, look_lst, frz, lstM, consM, add_int, mod_int, m1, m2, m3 _ (show Bd 200 99182736455463728190019283746556473 by decide), m3 _ (show Bd 200 73029184756102938475610293847561029 by decide), m3 _ (show Bd 200 31415926535897932384626433832795029 by decide), m3 _ (show Bd 200 58203947561830297465018273645019283 by decide), setT, bindT, cmpM, cmpD, ixM, ixD, atI, ixN, Ob.d, sizeLine_eq, h2, h4, List.replicate, trunc_self, fin]

theorem atI_at {α : Type} {l : List α} {i : Int} (h : 0 ≤ i) (k : i < (l.length : Int)) : ∃ x, atI l i = some x ∧ l[i.toNat]? = some x := by
  have lt : i.toNat < l.length := by omega
  refine ⟨l[i.toNat], ?_, List.getElem?_eq_getElem lt⟩
  unfold atI ixN
  rw [if_pos h, if_pos k]
  exact List.getElem?_eq_getElem lt
theorem at_mixed (k : Nat) : lev ds (k + 1) "_law_mixed" = bodyF 4 (evTs (lev ds k) b__law_mixed) := by kernel_rfl
theorem mixed_ok (k : Nat) (ns : List Int) (j : Int) (S : List SO) (hl : ns.length ≤ 63) (hj : 0 ≤ j) (hj2 : j < 1000) : ∃ v, lev ds (k + 1) "_law_mixed" [.lst (ns.map .int), .int j] ⟨[], S⟩ = .ok (.int v) ⟨[], S⟩ ∧ 0 ≤ v ∧ v < 2 ^ 127 := by
  rw [at_mixed]
  unfold bodyF b__law_mixed
  generalize hM : (if (1 : Int) < ns.length then (ns.length : Int) else 1) = M
  have M1 : 0 < M := by rw [← hM]; split <;> omega
  have M2 : M ≤ ns.length + 1 := by rw [← hM]; split <;> omega
  have i1 := Int.emod_nonneg j (show M ≠ 0 by omega)
  have i2 := Int.emod_lt_of_pos j M1
  obtain ⟨c, hc⟩ : ∃ c : Int, atI (ns.map D.int ++ [.int 0]) (j % M) = some (.int c) := by
    obtain ⟨x, e1, e2⟩ := atI_at (l := ns.map D.int ++ [.int 0]) i1 (by simp; omega)
    rw [e1]
    have e3 : ns.map D.int ++ [.int 0] = (ns ++ [0]).map D.int := by simp
    rw [e3, List.getElem?_map] at e2
    cases q : (ns ++ [0])[(j % M).toNat]? with
    | none => rw [q] at e2; cases e2
    | some z => rw [q] at e2; cases e2; exact ⟨z, rfl⟩
  have bj : Bd 10 j := .of hj (by omega)
  generalize hC : c % 1000000000000000000000000000000000000000000000000000000000000 = C
  have bC : Bd 200 C := .of (by rw [← hC]; omega) (by rw [← hC]; omega)
  generalize hT : 91520834467120936671528473920164857 + 2 * j = T
  have bT : Bd 120 T := .of (by omega) (by omega)
  have b1 : Bd 21 (1009 * j) := Bd.mul (a := 11) (b := 10) (by decide) bj (by decide)
  have b2 : Bd 210 (C + 1 + 1009 * j * j) := Bd.add (Bd.add bC (b := 1) (by decide) (c := 201) (by decide) (by decide)) (Bd.mul b1 bj (c := 33) (by decide)) (by decide) (by decide)
  have m1 := mul_int (h := Bd.ok (a := 11) (i := 1009) (by decide) bj (by decide) (by decide))
  have m2 := mul_int (h := Bd.ok b1 bj (by decide) (by decide))
  have m3 := mul_int (h := Bd.ok b2 bT (by decide) (by decide))
  have m4 := mul_int (h := Bd.ok (a := 2) (i := 2) (by decide) bj (by decide) (by decide))
  have p1 := pow_int (i := 10) (j := 60) (h := ⟨by decide, by decide, by decide⟩)
  have fin : ∀ x : Int, 0 ≤ x % 170141183460469231731687303715884105727 ∧ x % 170141183460469231731687303715884105727 < 170141183460469231731687303715884105728 := fun x => by omega
  have sz : ns.length + 1 ≤ sizeLine := by rw [sizeLine_eq]; omega
  have a1 := add_lst (x := ns.map D.int) (y := [.int 0]) (h := by simpa using sz)
  have d1 := mod_int (i := j) (j := M) (h := M1)
  have d2 := modS_int (i := c) (j := 1000000000000000000000000000000000000000000000000000000000000) (h := by decide)
  simp [evTs, evT, evE, evX, evN, evB, Ex.opd, asgM, iffM, seqS, retM, skipM, o1_v, o1_e, o2_vv, o2_ee, o2_ev, opd2, opd1, Opd.pre, Opd.get, pkV, look_int, look_lst, frz, lstM, consM, add_int, addS_int, mod_int, m1, m2, m3, m4, p1, a1, d1, d2, hC, hT, hM, hc, bi1M, bi1D, lenD, mn2M, mn2D, putS, setT, bindT, cmpM, cmpD, ixM, ixD, Ob.d, sizeLine_eq, List.replicate, trunc_self, fin]

/-! ### words, forms, boxes -/
def words : List Str := ["set", "turn", "copy", "take", "add", "if", "sub", "put", "less", "same", "mix", "round", "pick", "times", "touch", "parts", "tell", "idle"]
def formT : List (Str × Str) := [("set", "sn"), ("copy", "sr"), ("add", "srr"), ("sub", "srr"), ("less", "srr"), ("same", "srr"), ("mix", "srr"), ("pick", "srrr"), ("times", "srr"), ("parts", "srr"), ("take", "str"), ("put", "trr"), ("touch", "tr"), ("tell", "r"), ("idle", "m"), ("if", "raa"), ("round", "ga"), ("turn", "ra")]
def formS (w : Str) : Str := (formT.lookup w).getD ""
theorem bodyF_rt {n : Nat} {b : Mo Fl} {l : List D} {S : List SO} {d : D} {ρ : List Sl} (h : b ⟨l.map .va ++ List.replicate (n - l.length) .un, S⟩ = .ok (.rt d) ⟨ρ, S⟩) : bodyF n b l ⟨[], S⟩ = .ok d ⟨[], S⟩ := by
  unfold bodyF
  simp only [h, trunc_self]
theorem at_words (k : Nat) : lev ds (k + 1) "_law_words" = bodyF 1 (evTs (lev ds k) b__law_words) := by kernel_rfl
theorem words_ok (k : Nat) (S : List SO) : lev ds (k + 1) "_law_words" [] ⟨[], S⟩ = .ok (.lst (words.map .str)) ⟨[], S⟩ := by
  rw [at_words]
  exact bodyF_rt (ρ := [.own (.lst ((words.take 13).map .str))]) rfl
theorem at_form (k : Nat) : lev ds (k + 1) "_law_form" = bodyF 2 (evTs (lev ds k) b__law_form) := by kernel_rfl
theorem form_ok (k : Nat) (S : List SO) : ∀ w ∈ words, lev ds (k + 1) "_law_form" [.str w] ⟨[], S⟩ = .ok (.str (formS w)) ⟨[], S⟩ := by
  intro w hw
  rw [at_form]
  have key : ∀ w ∈ words, evTs (lev ds k) b__law_form ⟨[.va (.str w), .un], S⟩ = .ok (.rt (.str (formS w))) ⟨[.va (.str w), .own (.dct false (formT.map fun p => (.str p.1, .str p.2)))], S⟩ := by
    intro w hw
    simp only [words, List.mem_cons, List.not_mem_nil, or_false] at hw
    rcases hw with rfl | rfl | rfl | rfl | rfl | rfl | rfl | rfl | rfl | rfl | rfl | rfl | rfl | rfl | rfl | rfl | rfl | rfl <;> kernel_rfl
  exact bodyF_rt (key w hw)
theorem at_boxes (k : Nat) : lev ds (k + 1) "_law_boxes" = bodyF 2 (evTs (lev ds k) b__law_boxes) := by kernel_rfl
theorem boxes_ok (k : Nat) (S : List SO) (n : Int) : lev ds (k + 1) "_law_boxes" [.int n] ⟨[], S⟩ = .ok (.lst (([0, 13, 7, 27, 18] : List Int).map fun c => .int ((n / 3 + c) % 32))) ⟨[], S⟩ := by
  rw [at_boxes]
  unfold bodyF b__law_boxes
  simp [evTs, evT, evE, evX, evN, evB, evS, Ex.opd, retM, seqS, skipM, o1_v, o1_e, o2_vv, o2_ee, o2_ev, opd2, opd1, Opd.pre, Opd.get, pkV, look_int, frz, tupM, consM, seqM, itemsD, lcM, lcL, mayWipe, wipeR, restR, Tg.slots, Sl.isOwn, bindT, add_int, mod_int, fdiv_int, Ob.d, sizeLine_eq, List.replicate, trunc_self]
end LB

namespace LB
open PySem L2 PyProof.Rows
/-! ### what a step is -/
def Box (d : D) : Prop := ∃ i : Int, d = .int i ∧ 0 ≤ i ∧ i < 100
def Parts (A : D → Prop) : List Nat → List D → Prop
  | [], [] => True
  | c :: cs, p :: ps => (if c = 97 then A p else Box p) ∧ Parts A cs ps
  | _, _ => False
def Stp (A : D → Prop) (x : D) : Prop := ∃ w ps, x = .tup (.str w :: ps) ∧ w ∈ words ∧ Parts A (formS w).cps.toList ps
def Steps : Nat → D → Prop
  | 0, d => d = .tup []
  | n + 1, d => ∃ l, d = .tup l ∧ l.length ≤ 4 ∧ ∀ x ∈ l, Stp (Steps n) x
theorem Steps.tup : ∀ {n : Nat} {d : D}, Steps n d → ∃ l, d = .tup l
  | 0, _, h => ⟨[], h⟩
  | _ + 1, _, ⟨l, e, _⟩ => ⟨l, e⟩
def loopOf : Sxs → Sxs
  | .cons _ (.cons (.for _ _ b) _) => b
  | _ => .nil
def letters : List Nat := [97, 115, 114, 110, 116, 109, 103]
theorem form_letters : ∀ w ∈ words, ∀ c ∈ (formS w).cps.toList, c ∈ letters := by decide +kernel
theorem form_len : ∀ w ∈ words, (formS w).cps.toList.length ≤ 4 := by decide +kernel
theorem step_turn (k : Nat) (d : Nat) (w : Str) (n dp i v : Int) (bs acc : List D) (s7 : Sl) (S : List SO) (c : Nat) (hc : c ∈ letters) (hl : acc.length < 100) (hb : bs ≠ []) (hbl : bs.length ≤ 64) (hbb : ∀ b ∈ bs, Box b)
    (ht : lev ds k "_law_turned" [.int n, .int i] ⟨[], S⟩ = .ok (.int v) ⟨[], S⟩) (hv : 0 ≤ v)
    (hs : c = 97 → ∃ st, Steps d st ∧ lev ds k "_law_steps" [.int v, .int (1 + v / 3 % 4), .lst bs, .int (dp - 1)] ⟨[], S⟩ = .ok st ⟨[], S⟩) :
    ∃ p s7', evTs (lev ds k) l1__law_step ⟨[.va (.str w), .va (.int n), .va (.lst bs), .va (.int dp), .own (.lst acc), .va (.int i), .va (.str ⟨#[c]⟩), s7], S⟩ = .ok .nx ⟨[.va (.str w), .va (.int n), .va (.lst bs), .va (.int dp), .own (.lst (acc ++ [p])), .va (.int i), .va (.str ⟨#[c]⟩), s7'], S⟩ ∧ (if c = 97 then Steps d p else Box p) := by
  have q97 : cmpD .eq (.str ⟨#[97]⟩) (.str "a") = some true := by kernel_rfl
  have q115 : cmpD .eq (.str ⟨#[115]⟩) (.str "a") = some false := by kernel_rfl
  have q114 : cmpD .eq (.str ⟨#[114]⟩) (.str "a") = some false := by kernel_rfl
  have q110 : cmpD .eq (.str ⟨#[110]⟩) (.str "a") = some false := by kernel_rfl
  have q116 : cmpD .eq (.str ⟨#[116]⟩) (.str "a") = some false := by kernel_rfl
  have q109 : cmpD .eq (.str ⟨#[109]⟩) (.str "a") = some false := by kernel_rfl
  have q103 : cmpD .eq (.str ⟨#[103]⟩) (.str "a") = some false := by kernel_rfl
  have r115 : cmpD .isin (.str ⟨#[115]⟩) (.str "sr") = some true := by kernel_rfl
  have r114 : cmpD .isin (.str ⟨#[114]⟩) (.str "sr") = some true := by kernel_rfl
  have r110 : cmpD .isin (.str ⟨#[110]⟩) (.str "sr") = some false := by kernel_rfl
  have r116 : cmpD .isin (.str ⟨#[116]⟩) (.str "sr") = some false := by kernel_rfl
  have r109 : cmpD .isin (.str ⟨#[109]⟩) (.str "sr") = some false := by kernel_rfl
  have r103 : cmpD .isin (.str ⟨#[103]⟩) (.str "sr") = some false := by kernel_rfl
  have t110 : cmpD .isin (.str ⟨#[110]⟩) (.str "mg") = some false := by kernel_rfl
  have t116 : cmpD .isin (.str ⟨#[116]⟩) (.str "mg") = some false := by kernel_rfl
  have t109 : cmpD .isin (.str ⟨#[109]⟩) (.str "mg") = some true := by kernel_rfl
  have t103 : cmpD .isin (.str ⟨#[103]⟩) (.str "mg") = some true := by kernel_rfl
  have hm : mergeD [] [(.str "n", .int 16), (.str "t", .int 4), (.str "m", .int 60), (.str "g", .int 15)] = [(.str "n", .int 16), (.str "t", .int 4), (.str "m", .int 60), (.str "g", .int 15)] := by kernel_rfl
  have g110 : getD? (.dct false [(.str "n", .int 16), (.str "t", .int 4), (.str "m", .int 60), (.str "g", .int 15)]) (.str ⟨#[110]⟩) = some (some (.int 16)) := by kernel_rfl
  have g116 : getD? (.dct false [(.str "n", .int 16), (.str "t", .int 4), (.str "m", .int 60), (.str "g", .int 15)]) (.str ⟨#[116]⟩) = some (some (.int 4)) := by kernel_rfl
  have g109 : getD? (.dct false [(.str "n", .int 16), (.str "t", .int 4), (.str "m", .int 60), (.str "g", .int 15)]) (.str ⟨#[109]⟩) = some (some (.int 60)) := by kernel_rfl
  have g103 : getD? (.dct false [(.str "n", .int 16), (.str "t", .int 4), (.str "m", .int 60), (.str "g", .int 15)]) (.str ⟨#[103]⟩) = some (some (.int 15)) := by kernel_rfl
  have key : ∀ (p : D) (s : Sl), evTs (lev ds k) l1__law_step ⟨[.va (.str w), .va (.int n), .va (.lst bs), .va (.int dp), .own (.lst acc), .va (.int i), .va (.str ⟨#[c]⟩), s7], S⟩ = .ok .nx ⟨[.va (.str w), .va (.int n), .va (.lst bs), .va (.int dp), .own (.lst (acc ++ [p])), .va (.int i), .va (.str ⟨#[c]⟩), s], S⟩ → (if c = 97 then Steps d p else Box p) → ∃ p s7', evTs (lev ds k) l1__law_step ⟨[.va (.str w), .va (.int n), .va (.lst bs), .va (.int dp), .own (.lst acc), .va (.int i), .va (.str ⟨#[c]⟩), s7], S⟩ = .ok .nx ⟨[.va (.str w), .va (.int n), .va (.lst bs), .va (.int dp), .own (.lst (acc ++ [p])), .va (.int i), .va (.str ⟨#[c]⟩), s7'], S⟩ ∧ (if c = 97 then Steps d p else Box p) := fun p s h1 h2 => ⟨p, s, h1, h2⟩
  have sz : acc.length < sizeLine := by rw [sizeLine_eq]; omega
  have bl : (0 : Int) < bs.length := by
    have := List.length_pos_iff.mpr hb
    omega
  obtain ⟨b, eb, eb2⟩ := atI_at (l := bs) (i := v / 5 % bs.length) (Int.emod_nonneg _ (by omega)) (Int.emod_lt_of_pos _ bl)
  obtain ⟨bi, rfl, bi1, bi2⟩ := hbb b (List.mem_of_getElem? eb2)
  have d1 := mod_int (i := v / 5) (j := bs.length) (h := bl)
  have f5 := fdiv_int (i := v) (j := 5) (h := by decide) (h2 := by decide)
  have f3 := fdiv_int (i := v) (j := 3) (h := by decide) (h2 := by decide)
  have f7 := fdiv_int (i := v) (j := 7) (h := by decide) (h2 := by decide)
  have e4 := mod_int (i := v / 3) (j := 4) (h := by decide)
  simp only [letters, List.mem_cons, List.not_mem_nil, or_false] at hc
  rcases hc with rfl | rfl | rfl | rfl | rfl | rfl | rfl
  · obtain ⟨st, h1, h2⟩ := hs rfl
    obtain ⟨l, rfl⟩ := h1.tup
    refine key (.tup l) (.va (.int v)) ?_ (by rw [if_pos rfl]; exact h1)
    simp [l1__law_step, evTs, evT, evE, evX, evN, evB, Ex.opd, asgM, iffM, seqS, dropM, skipM, callM, consM, omM, omD, Opd.pl, Pl.get, Pl.set, Ob.ty, Om.ty, opd2, opd1, o2_vv, o2_ee, o2_ev, Opd.pre, Opd.get, pkV, evV, look_int, look_str, ht, h2, q97, cmpM, setT, bindT, f3, e4, add_int, sub_int, sz]
  · refine key (.int bi) (.va (.int v)) ?_ (by rw [if_neg (by decide)]; exact ⟨bi, rfl, bi1, bi2⟩)
    simp [l1__law_step, evTs, evT, evE, evX, evN, evB, evPs, Ex.opd, asgM, iffM, seqS, dropM, skipM, callM, consM, omM, omD, Opd.pl, Pl.get, Pl.set, Ob.ty, Om.ty, opd2, opd1, o2_vv, o2_ee, o2_ev, Opd.pre, Opd.get, pkV, evV, look_int, look_str, look_lst, look_dct, look_bl, ht, cmpM, blM, setT, bindT, f3, f5, f7, e4, d1, add_int, sub_int, mod_int, sz, bi1M, bi1D, lenD, ixM, ixD, eb, frz, dctM, prsM, okKeys, keyD, hm, Ob.d, q115, r115]
  · refine key (.int bi) (.va (.int v)) ?_ (by rw [if_neg (by decide)]; exact ⟨bi, rfl, bi1, bi2⟩)
    simp [l1__law_step, evTs, evT, evE, evX, evN, evB, evPs, Ex.opd, asgM, iffM, seqS, dropM, skipM, callM, consM, omM, omD, Opd.pl, Pl.get, Pl.set, Ob.ty, Om.ty, opd2, opd1, o2_vv, o2_ee, o2_ev, Opd.pre, Opd.get, pkV, evV, look_int, look_str, look_lst, look_dct, look_bl, ht, cmpM, blM, setT, bindT, f3, f5, f7, e4, d1, add_int, sub_int, mod_int, sz, bi1M, bi1D, lenD, ixM, ixD, eb, frz, dctM, prsM, okKeys, keyD, hm, Ob.d, q114, r114]
  · refine key (.int (v / 7 % 16 + 0)) (.va (.int v)) ?_ (by rw [if_neg (by decide)]; exact ⟨_, rfl, by omega, by omega⟩)
    simp [l1__law_step, evTs, evT, evE, evX, evN, evB, evPs, Ex.opd, asgM, iffM, seqS, dropM, skipM, callM, consM, omM, omD, Opd.pl, Pl.get, Pl.set, Ob.ty, Om.ty, opd2, opd1, o2_vv, o2_ee, o2_ev, Opd.pre, Opd.get, pkV, evV, look_int, look_str, look_lst, look_dct, look_bl, ht, cmpM, blM, setT, bindT, f3, f5, f7, e4, d1, add_int, sub_int, mod_int, sz, bi1M, bi1D, lenD, ixM, ixD, eb, frz, dctM, prsM, okKeys, keyD, hm, Ob.d, q110, r110, t110, g110]
  · refine key (.int (v / 7 % 4 + 0)) (.va (.int v)) ?_ (by rw [if_neg (by decide)]; exact ⟨_, rfl, by omega, by omega⟩)
    simp [l1__law_step, evTs, evT, evE, evX, evN, evB, evPs, Ex.opd, asgM, iffM, seqS, dropM, skipM, callM, consM, omM, omD, Opd.pl, Pl.get, Pl.set, Ob.ty, Om.ty, opd2, opd1, o2_vv, o2_ee, o2_ev, Opd.pre, Opd.get, pkV, evV, look_int, look_str, look_lst, look_dct, look_bl, ht, cmpM, blM, setT, bindT, f3, f5, f7, e4, d1, add_int, sub_int, mod_int, sz, bi1M, bi1D, lenD, ixM, ixD, eb, frz, dctM, prsM, okKeys, keyD, hm, Ob.d, q116, r116, t116, g116]
  · refine key (.int (v / 7 % 60 + 1)) (.va (.int v)) ?_ (by rw [if_neg (by decide)]; exact ⟨_, rfl, by omega, by omega⟩)
    simp [l1__law_step, evTs, evT, evE, evX, evN, evB, evPs, Ex.opd, asgM, iffM, seqS, dropM, skipM, callM, consM, omM, omD, Opd.pl, Pl.get, Pl.set, Ob.ty, Om.ty, opd2, opd1, o2_vv, o2_ee, o2_ev, Opd.pre, Opd.get, pkV, evV, look_int, look_str, look_lst, look_dct, look_bl, ht, cmpM, blM, setT, bindT, f3, f5, f7, e4, d1, add_int, sub_int, mod_int, sz, bi1M, bi1D, lenD, ixM, ixD, eb, frz, dctM, prsM, okKeys, keyD, hm, Ob.d, q109, r109, t109, g109]
  · refine key (.int (v / 7 % 15 + 1)) (.va (.int v)) ?_ (by rw [if_neg (by decide)]; exact ⟨_, rfl, by omega, by omega⟩)
    simp [l1__law_step, evTs, evT, evE, evX, evN, evB, evPs, Ex.opd, asgM, iffM, seqS, dropM, skipM, callM, consM, omM, omD, Opd.pl, Pl.get, Pl.set, Ob.ty, Om.ty, opd2, opd1, o2_vv, o2_ee, o2_ev, Opd.pre, Opd.get, pkV, evV, look_int, look_str, look_lst, look_dct, look_bl, ht, cmpM, blM, setT, bindT, f3, f5, f7, e4, d1, add_int, sub_int, mod_int, sz, bi1M, bi1D, lenD, ixM, ixD, eb, frz, dctM, prsM, okKeys, keyD, hm, Ob.d, q103, r103, t103, g103]
end LB

namespace LB
open PySem L2 PyProof.Rows
theorem step_loop (k : Nat) (d : Nat) (w : Str) (n dp : Int) (bs : List D) (S : List SO) (hb : bs ≠ []) (hbl : bs.length ≤ 64) (hbb : ∀ b ∈ bs, Box b) (hn : 0 ≤ n) (hn2 : n < 2 ^ 200)
    (hs : ∀ v many : Int, 0 ≤ v → v < 2 ^ 127 → 1 ≤ many → many ≤ 4 → ∃ st, Steps d st ∧ lev ds (k + 1) "_law_steps" [.int v, .int many, .lst bs, .int (dp - 1)] ⟨[], S⟩ = .ok st ⟨[], S⟩) :
    ∀ (cs : List Nat) (i : Nat) (acc : List D) (s5 s6 s7 : Sl), (∀ c ∈ cs, c ∈ letters) → acc.length + cs.length ≤ 50 → i + cs.length ≤ 50 → ∃ ps s5' s6' s7',
      forL (.tp (.cons (.nm 5) (.cons (.nm 6) .nil))) (evTs (lev ds (k + 1)) l1__law_step) (enumF i (cs.map fun c => .str ⟨#[c]⟩)) ⟨[.va (.str w), .va (.int n), .va (.lst bs), .va (.int dp), .own (.lst acc), s5, s6, s7], S⟩ = .ok .nx ⟨[.va (.str w), .va (.int n), .va (.lst bs), .va (.int dp), .own (.lst (acc ++ ps)), s5', s6', s7'], S⟩ ∧ Parts (Steps d) cs ps
  | [], i, acc, s5, s6, s7, _, _, _ => ⟨[], s5, s6, s7, by simp [enumF, forL], trivial⟩
  | c :: cs, i, acc, s5, s6, s7, hc, hl, hi => by
    rw [List.length_cons] at hl hi
    obtain ⟨v, ht, v0, v1⟩ := turned_ok k n (i : Nat) S hn hn2 (by omega) (by omega)
    obtain ⟨p, s7', e1, r1⟩ := step_turn (k + 1) d w n dp (i : Nat) v bs acc s7 S c (hc c List.mem_cons_self) (by omega) hb hbl hbb ht v0 fun _ => hs v (1 + v / 3 % 4) v0 v1 (by omega) (by omega)
    obtain ⟨ps, t5, t6, t7, e2, r2⟩ := step_loop k d w n dp bs S hb hbl hbb hn hn2 hs cs (i + 1) (acc ++ [p]) (.va (.int (i : Nat))) (.va (.str ⟨#[c]⟩)) s7' (fun c h => hc c (List.mem_cons_of_mem _ h)) (by simp; omega) (by omega)
    refine ⟨p :: ps, t5, t6, t7, ?_, r1, r2⟩
    rw [List.append_assoc] at e2
    simp only [List.map_cons, enumF, forL, bindT, bindTs, tupOf, List.set_cons_succ, List.set_cons_zero, e1, Res.bind_ok]
    exact e2
theorem at_step (k : Nat) : lev ds (k + 1) "_law_step" = bodyF 8 (evTs (lev ds k) b__law_step) := by kernel_rfl
theorem step_ok (k : Nat) (d : Nat) (w : Str) (hw : w ∈ words) (n dp : Int) (bs : List D) (S : List SO) (hb : bs ≠ []) (hbl : bs.length ≤ 64) (hbb : ∀ b ∈ bs, Box b) (hn : 0 ≤ n) (hn2 : n < 2 ^ 200)
    (hs : ∀ v many : Int, 0 ≤ v → v < 2 ^ 127 → 1 ≤ many → many ≤ 4 → ∃ st, Steps d st ∧ lev ds (k + 1) "_law_steps" [.int v, .int many, .lst bs, .int (dp - 1)] ⟨[], S⟩ = .ok st ⟨[], S⟩) :
    ∃ ps, Parts (Steps d) (formS w).cps.toList ps ∧ ps.length ≤ 50 ∧ lev ds (k + 2) "_law_step" [.str w, .int n, .lst bs, .int dp] ⟨[], S⟩ = .ok (.tup (.str w :: ps)) ⟨[], S⟩ := by
  obtain ⟨ps, s5, s6, s7, e, r⟩ := step_loop k d w n dp bs S hb hbl hbb hn hn2 hs (formS w).cps.toList 0 [] .un .un .un (form_letters w hw) (by have := form_len w hw; rw [List.length_nil]; omega) (by have := form_len w hw; omega)
  have pl : ∀ (cs : List Nat) (ps : List D), Parts (Steps d) cs ps → ps.length = cs.length := by
    intro cs
    induction cs with
    | nil => intro ps h; cases ps with
      | nil => rfl
      | cons _ _ => exact h.elim
    | cons c cs ih => intro ps h; cases ps with
      | nil => exact h.elim
      | cons p ps => rw [List.length_cons, List.length_cons, ih ps h.2]
  have l50 : ps.length ≤ 50 := by rw [pl _ _ r]; have := form_len w hw; omega
  refine ⟨ps, r, l50, ?_⟩
  rw [at_step]
  unfold bodyF b__law_step
  have e' := e
  have sz : 1 + ps.length ≤ sizeLine := by rw [sizeLine_eq]; omega
  have at1 := add_tup (x := [.str w]) (y := ps) (h := by simpa using sz)
  simp only [List.nil_append] at e'
  have si : signs (formS w) = (formS w).cps.toList.map fun c => D.str ⟨#[c]⟩ := rfl
  simp [evTs, evT, evX, evE, evN, evS, Ex.opd, lstM, consM, ownM, seqS, forM, enM, enD, itemsD, si, callM, evV, form_ok k S w hw, e', retM, opd2, opd1, Opd.pre, Opd.get, pkV, tupM, bi1M, bi1D, look_tup, at1, skipM, sizeLine_eq, List.replicate, trunc_self, Ob.d, look, Mo.opt]
end LB

namespace LB
open PySem L2 PyProof.Rows
theorem at_steps (k : Nat) : lev ds (k + 1) "_law_steps" = bodyF 7 (evTs (lev ds k) b__law_steps) := by kernel_rfl
theorem word_at (v : Int) : ∃ w ∈ words, atI (words.map D.str) (v % 18) = some (.str w) := by
  obtain ⟨x, e1, e2⟩ := atI_at (l := words.map D.str) (i := v % 18) (by omega) (by have : (words.map D.str).length = 18 := rfl; omega)
  rw [List.getElem?_map] at e2
  cases q : words[(v % 18).toNat]? with
  | none => rw [q] at e2; cases e2
  | some w => rw [q] at e2; cases e2; exact ⟨w, List.mem_of_getElem? q, e1⟩
/-- the steps at a depth, asked at level k -/
def StepsAt (k d : Nat) : Prop := ∀ (n many dp : Int) (bs : List D) (S : List SO), dp = (d : Int) → bs ≠ [] → bs.length ≤ 64 → (∀ b ∈ bs, Box b) → 0 ≤ n → n < 2 ^ 200 → 1 ≤ many → many ≤ 4 →
  ∃ st, Steps d st ∧ lev ds k "_law_steps" [.int n, .int many, .lst bs, .int dp] ⟨[], S⟩ = .ok st ⟨[], S⟩
theorem steps_zero (k : Nat) : StepsAt (k + 1) 0 := by
  intro n many dp bs S hd _ _ _ _ _ _ _
  subst hd
  refine ⟨.tup [], rfl, ?_⟩
  rw [at_steps]
  unfold bodyF b__law_steps
  have r0 : rngD [.int 0] = some [] := rfl
  simp [evTs, evT, evX, evE, evN, evB, evS, Ex.opd, lstM, consM, ownM, seqS, forM, forL, rngM, r0, iteM, cmpM, cmpD, retM, opd2, opd1, Opd.pre, Opd.get, pkV, look_int, look_lst, bi1M, bi1D, skipM, sizeLine_eq, List.replicate, trunc_self, Ob.d]
theorem steps_turn (k d : Nat) (n many dp : Int) (bs : List D) (S : List SO) (hd : dp = ((d + 1 : Nat) : Int)) (hb : bs ≠ []) (hbl : bs.length ≤ 64) (hbb : ∀ b ∈ bs, Box b) (hn : 0 ≤ n) (hn2 : n < 2 ^ 200) (H : StepsAt (k + 1) d)
    (i : Int) (hi : 0 ≤ i) (hi2 : i < 10) (acc : List D) (hl : acc.length < 100) (s6 : Sl) :
    ∃ x s6', evTs (lev ds (k + 2)) l1__law_steps ⟨[.va (.int n), .va (.int many), .va (.lst bs), .va (.int dp), .own (.lst acc), .va (.int i), s6], S⟩ = .ok .nx ⟨[.va (.int n), .va (.int many), .va (.lst bs), .va (.int dp), .own (.lst (acc ++ [x])), .va (.int i), s6'], S⟩ ∧ Stp (Steps d) x := by
  obtain ⟨v, ht, v0, v1⟩ := turned_ok (k + 1) n (3 + i) S hn hn2 (by omega) (by omega)
  obtain ⟨w, hw, ew⟩ := word_at (v / 3)
  obtain ⟨u, hu, u0, u1⟩ := turned_ok (k + 1) v 1 S v0 (by omega) (by decide) (by decide)
  obtain ⟨ps, hps, _, hst⟩ := step_ok k d w hw u dp bs S hb hbl hbb u0 (by omega) fun v many h1 h2 h3 h4 => H v many (dp - 1) bs S (by omega) hb hbl hbb h1 (by omega) h3 h4
  refine ⟨.tup (.str w :: ps), .va (.int v), ?_, w, ps, rfl, hw, hps⟩
  have wk := words_ok (k + 1) S
  have sz : acc.length < sizeLine := by rw [sizeLine_eq]; omega
  have f3 := fdiv_int (i := v) (j := 3) (h := by decide) (h2 := by decide)
  have e18 := mod_int (i := v / 3) (j := 18) (h := by decide)
  simp [l1__law_steps, evTs, evT, evE, evX, evN, evB, Ex.opd, asgM, seqS, dropM, skipM, callM, consM, omM, omD, Opd.pl, Pl.get, Pl.set, Ob.ty, Om.ty, opd2, opd1, Opd.pre, Opd.get, pkV, evV, look_int, look_lst, ht, hu, hst, wk, setT, bindT, f3, e18, add_int, sz, ixM, ixD, ew]
theorem steps_succ (k d : Nat) (H : StepsAt (k + 1) d) : StepsAt (k + 3) (d + 1) := by
  intro n many dp bs S hd hb hbl hbb hn hn2 hm hm2
  have loop : ∀ (c i : Nat) (acc : List D) (s5 s6 : Sl), i + c ≤ 5 → acc.length = i → (∀ x ∈ acc, Stp (Steps d) x) → ∃ l s5' s6', forL (.nm 5) (evTs (lev ds (k + 2)) l1__law_steps) ((List.range' i c).map fun (j : Nat) => .int (j : Int)) ⟨[.va (.int n), .va (.int many), .va (.lst bs), .va (.int dp), .own (.lst acc), s5, s6], S⟩ = .ok .nx ⟨[.va (.int n), .va (.int many), .va (.lst bs), .va (.int dp), .own (.lst l), s5', s6'], S⟩ ∧ l.length = i + c ∧ ∀ x ∈ l, Stp (Steps d) x := by
    intro c
    induction c with
    | zero => exact fun i acc s5 s6 _ ha hx => ⟨acc, s5, s6, rfl, by omega, hx⟩
    | succ c ih =>
      intro i acc s5 s6 hi ha hx
      obtain ⟨x, s6', e1, h1⟩ := steps_turn k d n many dp bs S hd hb hbl hbb hn hn2 H (i : Int) (by omega) (by omega) acc (by omega) s6
      obtain ⟨l, t5, t6, e2, h2, h3⟩ := ih (i + 1) (acc ++ [x]) (.va (.int (i : Int))) s6' (by omega) (by simp; omega) (fun y hy => by
        rcases List.mem_append.mp hy with q | q
        · exact hx y q
        · rw [List.mem_singleton.mp q]; exact h1)
      refine ⟨l, t5, t6, ?_, by omega, h3⟩
      rw [List.range'_succ, List.map_cons]
      simp only [forL, bindT, List.set_cons_succ, List.set_cons_zero, e1, Res.bind_ok]
      exact e2
  obtain ⟨l, s5, s6, e, h1, h2⟩ := loop many.toNat 0 [] .un .un (by omega) rfl (fun x h => absurd h List.not_mem_nil)
  refine ⟨.tup l, ⟨l, rfl, by omega, h2⟩, ?_⟩
  rw [at_steps]
  unfold bodyF b__law_steps
  have up : upTo 0 1 many.toNat = (List.range' 0 many.toNat).map fun (j : Nat) => .int (j : Int) := by
    unfold upTo
    rw [List.range_eq_range']
    exact List.map_congr_left fun j _ => by rw [Int.mul_one, Int.zero_add]
  have r0 : rngD [.int many] = some ((List.range' 0 many.toNat).map fun (j : Nat) => .int (j : Int)) := by
    simp only [rngD]
    rw [if_pos (by simp [small62]; omega), up]
  have dp0 : decide (0 < dp) = true := by simp; omega
  simp [evTs, evT, evX, evE, evN, evB, evS, evV, Ex.opd, lstM, consM, ownM, seqS, forM, rngM, r0, e, dp0, iteM, cmpM, cmpD, retM, opd2, opd1, Opd.pre, Opd.get, pkV, look_int, look_lst, bi1M, bi1D, skipM, sizeLine_eq, List.replicate, trunc_self, Ob.d]
end LB

namespace LB
open PySem L2 PyProof.Rows
def pick (c0 : Nat) : List Nat → List D → List D
  | c :: cs, p :: ps => if c = c0 then p :: pick c0 cs ps else pick c0 cs ps
  | _, _ => []
abbrev chr (c : Nat) : D := .str ⟨#[c]⟩
def hd0 : List D → D
  | [] => .non
  | p :: _ => p
theorem chr_eq : ∀ c ∈ letters, ∀ c0 ∈ ([115, 114, 116] : List Nat), cmpD .eq (chr c) (chr c0) = some (decide (c = c0)) := by
  intro c hc c0 h0
  simp only [letters, List.mem_cons, List.not_mem_nil, or_false] at hc h0
  rcases hc with rfl | rfl | rfl | rfl | rfl | rfl | rfl <;> rcases h0 with rfl | rfl | rfl <;> kernel_rfl
theorem sl_tail (x : D) (ps : List D) (m : Mst) : slMN (.tup (x :: ps)) (some 1) none m = .ok (.tup ps) m := by
  have e : cutD (x :: ps) (some 1) none = ps := by
    unfold cutD
    simp [HT.sIx]
  show (match slN (.tup (x :: ps)) (some 1) none with | some b => Mo.ret b.d | none => slDM (.tup (x :: ps)) (some 1) none) m = _
  simp only [slN, slDM, slD, e]
  rfl
theorem forms_at : ∀ w ∈ words, ixD (.kdc [("set", (.str "sn")), ("copy", (.str "sr")), ("add", (.str "srr")), ("sub", (.str "srr")), ("less", (.str "srr")), ("same", (.str "srr")), ("mix", (.str "srr")), ("pick", (.str "srrr")), ("times", (.str "srr")), ("parts", (.str "srr")), ("take", (.str "str")), ("put", (.str "trr")), ("touch", (.str "tr")), ("tell", (.str "r")), ("idle", (.str "m")), ("if", (.str "raa")), ("round", (.str "ga")), ("turn", (.str "ra"))]) (.str w) = some (.str (formS w)) := by
  intro w hw
  simp only [words, List.mem_cons, List.not_mem_nil, or_false] at hw
  rcases hw with rfl | rfl | rfl | rfl | rfl | rfl | rfl | rfl | rfl | rfl | rfl | rfl | rfl | rfl | rfl | rfl | rfl | rfl <;> kernel_rfl
theorem parts_comp (S : List SO) (st : D) (c0 : Nat) (h0 : c0 ∈ ([115, 114, 116] : List Nat)) : ∀ (cs : List Nat) (ps acc : List D) (a b : Sl), (∀ c ∈ cs, c ∈ letters) → acc.length + cs.length ≤ 100 → ∃ a' b',
    lcL (.tp (.cons (.nm 2) (.cons (.nm 3) .nil))) [2, 3] (opd2 (some 2, .no) (some 1, .no) (cmpM .eq)) (evV 3) acc (zipF (cs.map chr) ps) ⟨[.va st, .va (chr c0), a, b], S⟩ = .ok (acc ++ pick c0 cs ps) ⟨[.va st, .va (chr c0), a', b'], S⟩
  | [], ps, acc, a, b, _, _ => ⟨a, b, by simp [zipF, lcL, pick]⟩
  | c :: cs, [], acc, a, b, _, _ => ⟨a, b, by simp [zipF, lcL, pick]⟩
  | c :: cs, p :: ps, acc, a, b, hc, hl => by
    rw [List.length_cons] at hl
    have ce := chr_eq c (hc c List.mem_cons_self) c0 h0
    have sz : acc.length < sizeLine := by rw [sizeLine_eq]; omega
    by_cases q : c = c0
    · obtain ⟨a', b', e⟩ := parts_comp S st c0 h0 cs ps (acc ++ [p]) (.va (chr c)) (.va p) (fun x h => hc x (List.mem_cons_of_mem _ h)) (by simp; omega)
      refine ⟨a', b', ?_⟩
      rw [decide_eq_true q] at ce
      simp only [List.append_assoc, List.cons_append, List.nil_append] at e
      simp [zipF, lcL, pick, q, bindT, bindTs, tupOf, wipeR, opd2, Opd.pre, Opd.get, pkV, look_str, cmpM, q ▸ ce, evV, sz]
      rw [q] at e
      exact e
    · obtain ⟨a', b', e⟩ := parts_comp S st c0 h0 cs ps acc (.va (chr c)) (.va p) (fun x h => hc x (List.mem_cons_of_mem _ h)) (by omega)
      refine ⟨a', b', ?_⟩
      rw [decide_eq_false q] at ce
      simp [zipF, lcL, pick, q, bindT, bindTs, tupOf, wipeR, opd2, Opd.pre, Opd.get, pkV, look_str, cmpM, ce, evV, sz]
      exact e
theorem at_parts (k : Nat) : lev ds (k + 1) "parts_of" = bodyF 4 (evTs (lev ds k) b_parts_of) := by kernel_rfl
theorem parts_ok (k : Nat) (S : List SO) (w : Str) (hw : w ∈ words) (ps : List D) (c0 : Nat) (h0 : c0 ∈ ([115, 114, 116] : List Nat)) : lev ds (k + 1) "parts_of" [.tup (.str w :: ps), chr c0] ⟨[], S⟩ = .ok (.tup (pick c0 (formS w).cps.toList ps)) ⟨[], S⟩ := by
  obtain ⟨a, b, e⟩ := parts_comp S (.tup (.str w :: ps)) c0 h0 (formS w).cps.toList ps [] .un .un (form_letters w hw) (by have := form_len w hw; rw [List.length_nil]; omega)
  rw [at_parts]
  unfold bodyF b_parts_of
  have si : signs (formS w) = (formS w).cps.toList.map chr := rfl
  have a0 : atI (D.str w :: ps) 0 = some (.str w) := by simp [atI, ixN]
  have f0 := forms_at w hw
  have i0 : ixD (.tup (.str w :: ps)) (.int 0) = some (.str w) := a0
  simp only [List.nil_append] at e
  simp [evTs, evT, evX, evE, evN, evB, evS, evP, evV, Ex.opd, consM, seqS, retM, opd2, opd1, Opd.pre, Opd.get, pkV, look_int, look_tup, look_str, look_kdc, look_lst, ixM, i0, f0, slM, prtM, sl_tail, zzM, zzD, itemsD, si, lcM, mayWipe, Sl.isOwn, Tg.slots, Tgs.slots, e, frz, Ob.d, bi1M, bi1D, restR, skipM, List.replicate, trunc_self]
theorem at_reads (k : Nat) : lev ds (k + 1) "reads" = bodyF 1 (evTs (lev ds k) b_reads) := by kernel_rfl
theorem reads_ok (k : Nat) (S : List SO) (w : Str) (hw : w ∈ words) (ps : List D) : lev ds (k + 2) "reads" [.tup (.str w :: ps)] ⟨[], S⟩ = .ok (.tup (pick 114 (formS w).cps.toList ps)) ⟨[], S⟩ := by
  rw [at_reads]
  unfold bodyF b_reads
  have e : lev ds (k + 1) "parts_of" [.tup (.str w :: ps), .str "r"] ⟨[], S⟩ = _ := parts_ok k S w hw ps 114 (by simp)
  simp [evTs, evT, evX, evE, evV, consM, seqS, retM, callM, e, skipM, trunc_self]
theorem Parts.pick {A : D → Prop} {c0 : Nat} (n : c0 ≠ 97) : ∀ {cs : List Nat} {ps : List D}, Parts A cs ps → ∀ p ∈ pick c0 cs ps, Box p
  | [], [], _, p, h => absurd h List.not_mem_nil
  | c :: cs, q :: ps, ⟨h1, h2⟩, p, h => by
    unfold LB.pick at h
    by_cases e : c = c0
    · rw [if_pos e] at h
      rcases List.mem_cons.mp h with z | z
      · rw [if_neg (by rw [e]; exact n)] at h1
        rw [z]; exact h1
      · exact Parts.pick n h2 p z
    · rw [if_neg e] at h
      exact Parts.pick n h2 p h
  | [], _ :: _, h, _, _ => h.elim
  | _ :: _, [], h, _, _ => h.elim
theorem Box.tm {d : D} (h : Box d) : Tm 0 4 d := by
  obtain ⟨i, rfl, h1, h2⟩ := h
  exact (tm_small i h1 h2).up (Nat.le_refl _) (by decide)
theorem ne_nil {l : List D} (h : ∀ p ∈ l, Box p) : cmpD .ne (.tup l) (.tup []) = some (!l.isEmpty) := by
  obtain ⟨a, b, c, e, f⟩ := tmAll_toPs (n := 0) (B := 4) fun p hp => (h p hp).tm
  have lay : (D.tup l).toP.canLay0 = true := by simp only [D.toP, PyData.canLay0]; exact a
  have dep : (D.tup l).toP.depth ≤ 64 := by simp only [D.toP, PyData.depth]; omega
  have s1 : SeqAt.shaped (D.tup l).toP = true := by unfold SeqAt.shaped; rw [lay, decide_eq_true dep]; rfl
  have s2 : SeqAt.shaped (D.tup []).toP = true := by decide +kernel
  have e : eqD (.tup l) (.tup []) = some l.isEmpty := by
    unfold eqD
    rw [s1, s2, Bool.and_self, if_pos rfl]
    cases l with
    | nil => simp [D.toP, D.toPs, PyData.eqv, PyData.eqvAll]
    | cons x r => simp [D.toP, D.toPs, PyData.eqv, PyData.eqvAll]
  simp only [cmpD, e, Option.map_some]
theorem at_sets (k : Nat) : lev ds (k + 1) "sets" = bodyF 2 (evTs (lev ds k) b_sets) := by kernel_rfl
theorem at_table (k : Nat) : lev ds (k + 1) "table_of" = bodyF 2 (evTs (lev ds k) b_table_of) := by kernel_rfl
theorem first_ok (k : Nat) (S : List SO) (c0 : Str) (x : D) (l : List D) (h : ∀ p ∈ l, Box p) (e : lev ds (k + 1) "parts_of" [x, .str c0] ⟨[], S⟩ = .ok (.tup l) ⟨[], S⟩) :
    bodyF 2 (evTs (lev ds (k + 1)) (.cons (.asg (.nm 1) (.call "parts_of" (.cons (.v 0) (.cons (.mc (.str c0)) .nil)))) (.cons (.ret (.ite (.cmp .ne (.v 1) (.tup .nil)) (.ix (.v 1) (.k (.int 0))) (.k .non))) .nil))) [x] ⟨[], S⟩ = .ok (hd0 l) ⟨[], S⟩ := by
  unfold bodyF
  have n0 := ne_nil h
  cases l with
  | nil => simp [evTs, evT, evX, evE, evB, evV, Ex.opd, consM, tupM, seqS, retM, asgM, setT, bindT, callM, e, iteM, opd2, opd1, Opd.pre, Opd.get, pkV, look_tup, look_int, cmpM, n0, hd0, skipM, sizeLine_eq, List.replicate, trunc_self]
  | cons p r =>
    have a0 : ixD (.tup (p :: r)) (.int 0) = some p := by show atI (p :: r) 0 = _; simp [atI, ixN]
    simp [evTs, evT, evX, evE, evB, evV, Ex.opd, consM, tupM, seqS, retM, asgM, setT, bindT, callM, e, iteM, opd2, opd1, Opd.pre, Opd.get, pkV, look_tup, look_int, cmpM, n0, ixM, a0, hd0, skipM, sizeLine_eq, List.replicate, trunc_self]
theorem sets_ok (k : Nat) (S : List SO) (w : Str) (hw : w ∈ words) (ps : List D) (h : ∀ p ∈ pick 115 (formS w).cps.toList ps, Box p) : lev ds (k + 2) "sets" [.tup (.str w :: ps)] ⟨[], S⟩ = .ok (hd0 (pick 115 (formS w).cps.toList ps)) ⟨[], S⟩ := by
  rw [at_sets]
  exact first_ok k S "s" _ _ h (parts_ok k S w hw ps 115 (by simp))
theorem table_ok (k : Nat) (S : List SO) (w : Str) (hw : w ∈ words) (ps : List D) (h : ∀ p ∈ pick 116 (formS w).cps.toList ps, Box p) : lev ds (k + 2) "table_of" [.tup (.str w :: ps)] ⟨[], S⟩ = .ok (hd0 (pick 116 (formS w).cps.toList ps)) ⟨[], S⟩ := by
  rw [at_table]
  exact first_ok k S "t" _ _ h (parts_ok k S w hw ps 116 (by simp))
end LB

namespace LB
open PySem L2 PyProof.Rows
/-! ### how long a step's text is -/
def capS : Nat → Nat
  | 0 => 10
  | n + 1 => 4 * (5 * capS n + 13) + 11
theorem word_tm : ∀ w ∈ words, Tm 0 10 (.str w) := by
  have k1 : ∀ w ∈ words, (D.str w).toP.canLay0 = true := by decide +kernel
  have k2 : ∀ w ∈ words, (D.str w).toP.shown.length ≤ 10 := by decide +kernel
  have k3 : ∀ w ∈ words, PyData.strOk (D.str w).toP.shown = true := by decide +kernel
  exact fun w h => ⟨k1 w h, Nat.le_refl _, rfl, k2 w h, k3 w h⟩
theorem capS_ge : ∀ n, 10 ≤ capS n
  | 0 => Nat.le_refl _
  | n + 1 => by unfold capS; omega
theorem parts_tm {A : D → Prop} {n B : Nat} (hA : ∀ p, A p → Tm n B p) (hB : 4 ≤ B) : ∀ {cs : List Nat} {ps : List D}, Parts A cs ps → TmAll n B ps ∧ ps.length = cs.length
  | [], [], _ => ⟨fun _ h => absurd h List.not_mem_nil, rfl⟩
  | c :: cs, p :: ps, ⟨h1, h2⟩ => by
    obtain ⟨a, b⟩ := parts_tm hA hB h2
    refine ⟨fun x hx => ?_, by rw [List.length_cons, List.length_cons, b]⟩
    rcases List.mem_cons.mp hx with z | z
    · rw [z]
      by_cases e : c = 97
      · rw [if_pos e] at h1; exact hA p h1
      · rw [if_neg e] at h1; exact (Box.tm h1).up (Nat.zero_le _) hB
    · exact a x z
  | [], _ :: _, h => h.elim
  | _ :: _, [], h => h.elim
theorem stp_tm {A : D → Prop} {n B : Nat} (hA : ∀ p, A p → Tm n B p) (hB : 10 ≤ B) {x : D} (h : Stp A x) : Tm (n + 1) (5 * B + 13) x := by
  obtain ⟨w, ps, rfl, hw, hp⟩ := h
  obtain ⟨a, b⟩ := parts_tm hA (by omega) hp
  have l := form_len w hw
  refine (Tm.tup (n := n) (B := B) (L := 5) (fun y hy => ?_) (by rw [List.length_cons]; omega)).up (Nat.le_refl _) (by omega)
  rcases List.mem_cons.mp hy with z | z
  · rw [z]; exact (word_tm w hw).up (Nat.zero_le _) hB
  · exact a y z
theorem steps_tm : ∀ (n : Nat) (d : D), Steps n d → Tm (2 * n + 1) (capS n) d
  | 0, _, h => by
    have e : _ = D.tup [] := h
    subst e
    exact (Tm.tup (n := 0) (B := 0) (L := 0) (fun _ h => absurd h List.not_mem_nil) (Nat.le_refl _)).up (by omega) (by decide)
  | n + 1, _, ⟨l, rfl, hl, hx⟩ => by
    refine (Tm.tup (L := 4) (fun y hy => stp_tm (steps_tm n) (capS_ge n) (hx y hy)) hl).up (by omega) ?_
    show 4 * (5 * capS n + 13) + 2 * 4 + 3 ≤ 4 * (5 * capS n + 13) + 11
    omega
/-! ### the law's comprehensions -/
theorem law_comp (S : List SO) (c0 : Nat) (h0 : c0 ∈ ([115, 114, 116] : List Nat)) (x0 x1 x2 x3 x4 x5 x6 x7 x8 x9 x10 x11 x12 x13 x14 : Sl) : ∀ (cs : List Nat) (ps acc : List D) (a b : Sl), (∀ c ∈ cs, c ∈ letters) → acc.length + cs.length ≤ 100 → ∃ a' b',
    lcL (.tp (.cons (.nm 15) (.cons (.nm 16) .nil))) [15, 16] (opd2 (some 15, .no) (none, .ret (chr c0)) (cmpM .eq)) (evV 16) acc (zipF (cs.map chr) ps) ⟨[x0, x1, x2, x3, x4, x5, x6, x7, x8, x9, x10, x11, x12, x13, x14, a, b], S⟩ = .ok (acc ++ pick c0 cs ps) ⟨[x0, x1, x2, x3, x4, x5, x6, x7, x8, x9, x10, x11, x12, x13, x14, a', b'], S⟩
  | [], ps, acc, a, b, _, _ => ⟨a, b, by simp [zipF, lcL, pick]⟩
  | c :: cs, [], acc, a, b, _, _ => ⟨a, b, by simp [zipF, lcL, pick]⟩
  | c :: cs, p :: ps, acc, a, b, hc, hl => by
    rw [List.length_cons] at hl
    have ce := chr_eq c (hc c List.mem_cons_self) c0 h0
    have sz : acc.length < sizeLine := by rw [sizeLine_eq]; omega
    by_cases q : c = c0
    · obtain ⟨a', b', e⟩ := law_comp S c0 h0 x0 x1 x2 x3 x4 x5 x6 x7 x8 x9 x10 x11 x12 x13 x14 cs ps (acc ++ [p]) (.va (chr c)) (.va p) (fun x h => hc x (List.mem_cons_of_mem _ h)) (by simp; omega)
      refine ⟨a', b', ?_⟩
      rw [decide_eq_true q] at ce
      simp only [List.append_assoc, List.cons_append, List.nil_append] at e
      simp [zipF, lcL, pick, q, bindT, bindTs, tupOf, wipeR, opd2, Opd.pre, Opd.get, pkV, look_str, cmpM, q ▸ ce, evV, sz]
      rw [q] at e
      exact e
    · obtain ⟨a', b', e⟩ := law_comp S c0 h0 x0 x1 x2 x3 x4 x5 x6 x7 x8 x9 x10 x11 x12 x13 x14 cs ps acc (.va (chr c)) (.va p) (fun x h => hc x (List.mem_cons_of_mem _ h)) (by omega)
      refine ⟨a', b', ?_⟩
      rw [decide_eq_false q] at ce
      simp [zipF, lcL, pick, q, bindT, bindTs, tupOf, wipeR, opd2, Opd.pre, Opd.get, pkV, look_str, cmpM, ce, evV, sz]
      exact e
theorem box_comp (Φ : Str → Fn) (S : List SO) (v : Int) (x0 x1 x2 x3 x4 x6 x7 x8 x9 x10 x11 x12 x13 x15 x16 : Sl) : ∀ (js : List Int) (acc : List D) (a : Sl), acc.length + js.length ≤ 100 → ∃ a',
    lcL (.nm 14) [14] (.ret true) (evE Φ (.bop .mod (.bop .add (.bop .fdiv (.v 5) (.k (.int 3))) (.v 14)) (.k (.int 32)))) acc (js.map .int) ⟨[x0, x1, x2, x3, x4, .va (.int v), x6, x7, x8, x9, x10, x11, x12, x13, a, x15, x16], S⟩ = .ok (acc ++ js.map fun j => .int ((v / 3 + j) % 32)) ⟨[x0, x1, x2, x3, x4, .va (.int v), x6, x7, x8, x9, x10, x11, x12, x13, a', x15, x16], S⟩
  | [], acc, a, _ => ⟨a, by simp [lcL]⟩
  | j :: js, acc, a, hl => by
    rw [List.length_cons] at hl
    have sz : acc.length < sizeLine := by rw [sizeLine_eq]; omega
    obtain ⟨a', e⟩ := box_comp Φ S v x0 x1 x2 x3 x4 x6 x7 x8 x9 x10 x11 x12 x13 x15 x16 js (acc ++ [.int ((v / 3 + j) % 32)]) (.va (.int j)) (by simp; omega)
    refine ⟨a', ?_⟩
    simp only [List.append_assoc, List.cons_append, List.nil_append] at e
    simp [lcL, bindT, wipeR, evE, Ex.opd, opd2, Opd.pre, Opd.get, pkV, look_int, fdiv_int, add_int, mod_int, sz]
    exact e
theorem some_at (v : Int) : ∃ bs, atI [D.lst (([0, 13, 7, 27, 18] : List Int).map fun c => D.int ((v / 3 + c) % 32)), .lst [.int (v / 3 % 32)], .lst (((List.range 32).map fun (i : Nat) => (i : Int)).map fun j => D.int ((v / 3 + j) % 32))] (v / 7 % 3) = some (.lst bs) ∧ bs ≠ [] ∧ bs.length ≤ 64 ∧ ∀ b ∈ bs, Box b := by
  have r : v / 7 % 3 = 0 ∨ v / 7 % 3 = 1 ∨ v / 7 % 3 = 2 := by omega
  have bx : ∀ z : Int, Box (.int (z % 32)) := fun z => ⟨z % 32, rfl, by omega, by omega⟩
  have b0 : ∀ (l : List Int), ∀ b ∈ l.map (fun c => D.int ((v / 3 + c) % 32)), Box b := fun l b hb => by
    obtain ⟨c, _, rfl⟩ := List.mem_map.mp hb
    exact bx _
  rcases r with r | r | r <;> rw [r]
  · exact ⟨_, rfl, by simp, by simp, b0 _⟩
  · exact ⟨_, rfl, by simp, by simp, fun b hb => by rw [List.mem_singleton.mp hb]; exact bx _⟩
  · exact ⟨_, rfl, by simp, by simp, b0 _⟩
theorem hd_non (l : List D) : atI (l ++ [.non]) 0 = some (hd0 l) := by
  cases l with
  | nil => simp [atI, ixN, hd0]
  | cons x r =>
    have p : (0 : Int) < (r.length : Int) + 1 + 1 := by omega
    simp [atI, ixN, hd0, p]
theorem zip_len (cs : List Nat) (ps : List D) : (zipF (cs.map chr) ps).length ≤ cs.length := by
  rw [zipF_len, List.length_map]
  exact Nat.min_le_left _ _
theorem pick_len (c0 : Nat) : ∀ (cs : List Nat) (ps : List D), (pick c0 cs ps).length ≤ cs.length
  | [], _ => by simp [pick]
  | _ :: _, [] => by simp [pick]
  | c :: cs, p :: ps => by
    have := pick_len c0 cs ps
    unfold pick
    split <;> simp <;> omega
end LB

namespace LB
open PySem L2 PyProof.Rows
/-- one asking of the program's readings -/
theorem l1_turn (S : List SO) (w : Str) (hw : w ∈ words) (ps : List D) (hp : Parts (Steps 1) (formS w).cps.toList ps) (x0 x1 x2 x3 x4 x5 x6 x7 x12 x13 x14 : Sl) :
    ∃ x13', evTs (lev ds 4) l1_law ⟨[x0, x1, x2, x3, x4, x5, x6, x7, .va (.tup (.str w :: ps)), .va (.str (D.tup (.str w :: ps)).toP.shown), .va (.lst (zipF ((formS w).cps.toList.map chr) ps)), .own (.lst [hd0 (pick 115 (formS w).cps.toList ps), hd0 (pick 116 (formS w).cps.toList ps)]), x12, x13, x14, .un, .un], S⟩ =
      .ok .nx ⟨[x0, x1, x2, x3, x4, x5, x6, x7, .va (.tup (.str w :: ps)), .va (.str (D.tup (.str w :: ps)).toP.shown), .va (.lst (zipF ((formS w).cps.toList.map chr) ps)), .own (.lst [hd0 (pick 115 (formS w).cps.toList ps), hd0 (pick 116 (formS w).cps.toList ps)]), x12, x13', x14, .un, .un], S⟩ := by
  refine ⟨.va (.tup (pick 114 (formS w).cps.toList ps)), ?_⟩
  have b114 := Parts.pick (c0 := 114) (by decide) hp
  have b115 := Parts.pick (c0 := 115) (by decide) hp
  have b116 := Parts.pick (c0 := 116) (by decide) hp
  have rd := reads_ok 2 S w hw ps
  have st := sets_ok 2 S w hw ps b115
  have tb := table_ok 2 S w hw ps b116
  have tm : Tm 4 1400 (.tup (.str w :: ps)) := (stp_tm (steps_tm 1) (capS_ge 1) ⟨w, ps, rfl, hw, hp⟩).up (by decide) (by decide)
  have rp : repD (.tup (.str w :: ps)) = some (D.tup (.str w :: ps)).toP.shown := tm.rep (by decide) (by decide)
  have e1 : cmpD .ne (.lst (pick 114 (formS w).cps.toList ps)) (.lst (pick 114 (formS w).cps.toList ps)) = some false := by
    have q := Tm.lst0 (n := 0) (B := 4) (l := pick 114 (formS w).cps.toList ps) (fun d hd => (b114 d hd).tm) (by decide)
    simp only [cmpD, q, Option.map_some, Bool.not_true]
  have h0 : ∀ l : List D, (∀ p ∈ l, Box p) → Tm 0 4 (hd0 l) := fun l h => by
    cases l with
    | nil => exact tm_non
    | cons x r => exact (h x List.mem_cons_self).tm
  have e2 : cmpD .ne (.lst [hd0 (pick 115 (formS w).cps.toList ps), hd0 (pick 116 (formS w).cps.toList ps)]) (.lst [hd0 (pick 115 (formS w).cps.toList ps), hd0 (pick 116 (formS w).cps.toList ps)]) = some false := by
    have q := Tm.lst0 (n := 0) (B := 4) (l := [hd0 (pick 115 (formS w).cps.toList ps), hd0 (pick 116 (formS w).cps.toList ps)]) (fun d hd => by
      rcases List.mem_cons.mp hd with z | z
      · rw [z]; exact h0 _ b115
      · rw [List.mem_singleton.mp z]; exact h0 _ b116) (by decide)
    simp only [cmpD, q, Option.map_some, Bool.not_true]
  have e3 : ∀ s : Str, s = (D.tup (.str w :: ps)).toP.shown → cmpD .ne (.str s) (.str (D.tup (.str w :: ps)).toP.shown) = some false := fun s hs => by
    subst hs
    simp only [cmpD, tm.str_same, Option.map_some, Bool.not_true]
  have f1 := form_len w hw
  obtain ⟨a, b, lc⟩ := law_comp S 114 (by simp) x0 x1 x2 x3 x4 x5 x6 x7 (.va (.tup (.str w :: ps))) (.va (.str (D.tup (.str w :: ps)).toP.shown)) (.va (.lst (zipF ((formS w).cps.toList.map chr) ps))) (.own (.lst [hd0 (pick 115 (formS w).cps.toList ps), hd0 (pick 116 (formS w).cps.toList ps)])) x12 (.va (.tup (pick 114 (formS w).cps.toList ps))) x14 (formS w).cps.toList ps [] .un .un (form_letters w hw) (by rw [List.length_nil]; omega)
  have lc' : lcL (.tp (.cons (.nm 15) (.cons (.nm 16) .nil))) [15, 16] (opd2 (some 15, .no) (none, .ret (.str "r")) (cmpM .eq)) (evV 16) [] _ _ = _ := lc
  simp only [List.nil_append] at lc'
  have e3' := e3 _ rfl
  have i1 : isiD "tuple" (.tup (pick 114 (formS w).cps.toList ps)) = some true := rfl
  simp [l1_law, evTs, evT, evX, evE, evN, evB, evS, evV, Ex.opd, asgM, setT, bindT, iffM, consM, seqS, skipM, callM, orT, notT, opd2, opd1, Opd.pre, Opd.get, pkV, look_tup, look_lst, look_str, look_bl, bi1M, bi1D, i1, truM, truD, listN, cmpM, e1, e2, e3', seqM, itemsD, lcM, mayWipe, Sl.isOwn, Tg.slots, Tgs.slots, lc', restR, frz, lstM, Ob.d, rd, st, tb, rp, sizeLine_eq, look]
end LB

namespace LB
open PySem L2 PyProof.Rows
theorem cons_ok {Φ : Str → Fn} {s : Sx} {r : Sxs} {m m' : Mst} (h : evT Φ s m = .ok .nx m') : evTs Φ (.cons s r) m = evTs Φ r m' := by
  simp only [evTs, seqS, Mo.bind_at, h, Res.bind_ok]
def q0 : Sx := (.asg (.nm 5) (.call "_law_turned" (.cons (.v 2) (.cons (.v 3) .nil))))
def q1 : Sx := (.own 6 (.lst (.cons (.call "_law_boxes" (.cons (.v 5) .nil)) (.cons (.nw (.lst (.cons (.bop .mod (.bop .fdiv (.v 5) (.k (.int 3))) (.k (.int 32))) .nil))) (.cons (.nw (.lc (.rng (.cons (.k (.int 32)) .nil)) (.nm 14) [14] .yes (.bop .mod (.bop .add (.bop .fdiv (.v 5) (.k (.int 3))) (.v 14)) (.k (.int 32))))) .nil)))))
def q2 : Sx := (.asg (.nm 7) (.ix (.v 6) (.bop .mod (.bop .fdiv (.v 5) (.k (.int 7))) (.k (.int 3)))))
def q3 : Sx := (.asg (.nm 8) (.call "_law_step" (.cons (.v 4) (.cons (.call "_law_turned" (.cons (.v 5) (.cons (.k (.int 1)) .nil))) (.cons (.v 7) (.cons (.k (.int 2)) .nil))))))
def q4 : Sx := (.asg (.nm 9) (.b1 .repr (.v 8)))
def q5 : Sx := (.own 10 (.lzip (.cons (.call "_law_form" (.cons (.v 4) .nil)) (.cons (.sl (.v 8) (.some (.k (.int 1))) .no) .nil))))
def q6 : Sx := (.own 11 (.lst (.cons (.ix (.bop .add (.nw (.lc (.seq (.v 10)) (.tp (.cons (.nm 15) (.cons (.nm 16) .nil))) [15, 16] (.cmp .eq (.v 15) (.k (.str "s"))) (.v 16))) (.nw (.lst (.cons (.k .non) .nil)))) (.k (.int 0))) .nil)))
def q7 : Sx := (.expr (.om .append (.v 11) (.cons (.ix (.bop .add (.nw (.lc (.seq (.v 10)) (.tp (.cons (.nm 15) (.cons (.nm 16) .nil))) [15, 16] (.cmp .eq (.v 15) (.k (.str "t"))) (.v 16))) (.nw (.lst (.cons (.k .non) .nil)))) (.k (.int 0))) .nil)))
def q8 : Sx := (.for (.rng (.cons (.k (.int 2)) .nil)) (.nm 12) l1_law)
theorem l2_parts : l2_law = .cons q0 (.cons q1 (.cons q2 (.cons q3 (.cons q4 (.cons q5 (.cons q6 (.cons q7 (.cons q8 (.nil))))))))) := rfl

abbrev box3 (v : Int) : List D := [.lst (([0, 13, 7, 27, 18] : List Int).map fun c => D.int ((v / 3 + c) % 32)), .lst [.int (v / 3 % 32)], .lst (((List.range 32).map fun (i : Nat) => (i : Int)).map fun j => D.int ((v / 3 + j) % 32))]
section
variable (S : List SO) (x0 x1 x2 x3 x4 x5 x6 x7 x8 x9 x10 x11 x12 x13 x14 : Sl)
theorem q0_ok (n place v : Int) (ht : lev ds 4 "_law_turned" [.int n, .int place] ⟨[], S⟩ = .ok (.int v) ⟨[], S⟩) : evT (lev ds 4) q0 ⟨[x0, x1, .va (.int n), .va (.int place), x4, x5, x6, x7, x8, x9, x10, x11, x12, x13, .un, .un, .un], S⟩ = .ok .nx ⟨[x0, x1, .va (.int n), .va (.int place), x4, .va (.int v), x6, x7, x8, x9, x10, x11, x12, x13, .un, .un, .un], S⟩ := by
  simp [q0, evT, evX, evE, evV, consM, asgM, setT, bindT, callM, ht]
theorem q1_ok (v : Int) : evT (lev ds 4) q1 ⟨[x0, x1, x2, x3, x4, .va (.int v), x6, x7, x8, x9, x10, x11, x12, x13, .un, .un, .un], S⟩ = .ok .nx ⟨[x0, x1, x2, x3, x4, .va (.int v), .own (.lst (box3 v)), x7, x8, x9, x10, x11, x12, x13, .un, .un, .un], S⟩ := by
  obtain ⟨a, bc⟩ := box_comp (lev ds 4) S v x0 x1 x2 x3 x4 x6 x7 x8 x9 x10 x11 x12 x13 .un .un ((List.range 32).map fun (i : Nat) => (i : Int)) [] .un (by simp)
  simp only [List.nil_append] at bc
  have r32 : rngD [.int 32] = some (((List.range 32).map fun (i : Nat) => (i : Int)).map .int) := rfl
  have bx := boxes_ok 3 S v
  generalize hE : (Ex.bop .mod (.bop .add (.bop .fdiv (.v 5) (.k (.int 3))) (.v 14)) (.k (.int 32))) = E at bc
  generalize hL : ((List.range 32).map fun (i : Nat) => (i : Int)) = L at *
  have c1 : evE (lev ds 4) (.nw (.lc (.rng (.cons (.k (.int 32)) .nil)) (.nm 14) [14] .yes E)) ⟨[x0, x1, x2, x3, x4, .va (.int v), x6, x7, x8, x9, x10, x11, x12, x13, .un, .un, .un], S⟩ = .ok (.lst (L.map fun j => D.int ((v / 3 + j) % 32))) ⟨[x0, x1, x2, x3, x4, .va (.int v), x6, x7, x8, x9, x10, x11, x12, x13, .un, .un, .un], S⟩ := by
    have cond : mayWipe [14] [x0, x1, x2, x3, x4, .va (.int v), x6, x7, x8, x9, x10, x11, x12, x13, .un, .un, .un] = true ∧ ∀ j ∈ (Tg.nm 14).slots, j ∈ [14] := ⟨rfl, fun j hj => hj⟩
    simp only [evE, evN, evS, evX, evB, frz, lcM, rngM, consM, Mo.bind_at, Mo.ret_at, Res.bind_ok, r32, Mo.opt_some, if_pos cond, bc]
    rfl
  have d3 := fdiv_int (i := v) (j := 3) (h := by decide) (h2 := by decide)
  have m32 := mod_int (i := v / 3) (j := 32) (h := by decide)
  have w1 : evE (lev ds 4) (.nw (.lst (.cons (.bop .mod (.bop .fdiv (.v 5) (.k (.int 3))) (.k (.int 32))) .nil))) ⟨[x0, x1, x2, x3, x4, .va (.int v), x6, x7, x8, x9, x10, x11, x12, x13, .un, .un, .un], S⟩ = .ok (.lst [.int (v / 3 % 32)]) ⟨[x0, x1, x2, x3, x4, .va (.int v), x6, x7, x8, x9, x10, x11, x12, x13, .un, .un, .un], S⟩ := by
    simp [evE, evN, evX, Ex.opd, consM, lstM, frz, opd2, Opd.pre, Opd.get, pkV, look_int, d3, m32, Ob.d, sizeLine_eq]
  have w0 : evE (lev ds 4) (.call "_law_boxes" (.cons (.v 5) .nil)) ⟨[x0, x1, x2, x3, x4, .va (.int v), x6, x7, x8, x9, x10, x11, x12, x13, .un, .un, .un], S⟩ = .ok (.lst (([0, 13, 7, 27, 18] : List Int).map fun c => D.int ((v / 3 + c) % 32))) ⟨[x0, x1, x2, x3, x4, .va (.int v), x6, x7, x8, x9, x10, x11, x12, x13, .un, .un, .un], S⟩ := by
    simp only [evE, evX, evV, consM, callM, Mo.bind_at, Mo.ret_at, Res.bind_ok, List.getElem?_cons_succ, List.getElem?_cons_zero, bx]
  have e : q1 = .own 6 (.lst (.cons (.call "_law_boxes" (.cons (.v 5) .nil)) (.cons (.nw (.lst (.cons (.bop .mod (.bop .fdiv (.v 5) (.k (.int 3))) (.k (.int 32))) .nil))) (.cons (.nw (.lc (.rng (.cons (.k (.int 32)) .nil)) (.nm 14) [14] .yes E)) .nil)))) := by rw [← hE]; rfl
  rw [e]
  have z3 : (3 : Nat) ≤ sizeLine := by rw [sizeLine_eq]; decide
  simp only [evT, evN, evX, ownM, lstM, consM, Mo.bind_at, Mo.ret_at, Res.bind_ok, c1, w1, w0, List.length_cons, List.length_nil, Nat.zero_add, Nat.reduceAdd, if_pos z3, Nat.reduceLT, if_true, List.set_cons_succ, List.set_cons_zero]
  subst hL
  rfl
theorem q2_ok (v : Int) (bs : List D) (hbs : atI (box3 v) (v / 7 % 3) = some (.lst bs)) : evT (lev ds 4) q2 ⟨[x0, x1, x2, x3, x4, .va (.int v), .own (.lst (box3 v)), x7, x8, x9, x10, x11, x12, x13, .un, .un, .un], S⟩ = .ok .nx ⟨[x0, x1, x2, x3, x4, .va (.int v), .own (.lst (box3 v)), .va (.lst bs), x8, x9, x10, x11, x12, x13, .un, .un, .un], S⟩ := by
  generalize box3 v = B at *
  have i0 : ixD (.lst B) (.int (v / 7 % 3)) = some (.lst bs) := hbs
  simp [q2, evT, evE, Ex.opd, asgM, setT, bindT, opd2, Opd.pre, Opd.get, pkV, look_int, look_lst, Ob.d, fdiv_int, mod_int, ixM, i0]
theorem q3_ok (w : Str) (v u : Int) (bs ps : List D) (hu : lev ds 4 "_law_turned" [.int v, .int 1] ⟨[], S⟩ = .ok (.int u) ⟨[], S⟩) (hst : lev ds 4 "_law_step" [.str w, .int u, .lst bs, .int 2] ⟨[], S⟩ = .ok (.tup (.str w :: ps)) ⟨[], S⟩) :
    evT (lev ds 4) q3 ⟨[x0, x1, x2, x3, .va (.str w), .va (.int v), x6, .va (.lst bs), x8, x9, x10, x11, x12, x13, .un, .un, .un], S⟩ = .ok .nx ⟨[x0, x1, x2, x3, .va (.str w), .va (.int v), x6, .va (.lst bs), .va (.tup (.str w :: ps)), x9, x10, x11, x12, x13, .un, .un, .un], S⟩ := by
  simp [q3, evT, evX, evE, evV, consM, asgM, setT, bindT, callM, hu, hst]
theorem q4_ok (d : D) (l : List D) (hd : d = .tup l) (t : Str) (rp : repD d = some t) : evT (lev ds 4) q4 ⟨[x0, x1, x2, x3, x4, x5, x6, x7, .va d, x9, x10, x11, x12, x13, .un, .un, .un], S⟩ = .ok .nx ⟨[x0, x1, x2, x3, x4, x5, x6, x7, .va d, .va (.str t), x10, x11, x12, x13, .un, .un, .un], S⟩ := by
  subst hd
  simp [q4, evT, evE, Ex.opd, asgM, setT, bindT, opd1, Opd.pre, Opd.get, pkV, look_tup, bi1M, bi1D, rp]
theorem q5_ok (w : Str) (hw : w ∈ words) (ps : List D) : evT (lev ds 4) q5 ⟨[x0, x1, x2, x3, .va (.str w), x5, x6, x7, .va (.tup (.str w :: ps)), x9, x10, x11, x12, x13, .un, .un, .un], S⟩ = .ok .nx ⟨[x0, x1, x2, x3, .va (.str w), x5, x6, x7, .va (.tup (.str w :: ps)), x9, .own (.lst (zipF ((formS w).cps.toList.map chr) ps)), x11, x12, x13, .un, .un, .un], S⟩ := by
  have fo := form_ok 3 S w hw
  have f1 := form_len w hw
  have zz : zzD [.str (formS w), .tup ps] = some (zipF ((formS w).cps.toList.map chr) ps) := rfl
  have zl : (zipF ((formS w).cps.toList.map chr) ps).length ≤ sizeLine := by
    have := zip_len (formS w).cps.toList ps
    rw [sizeLine_eq]; omega
  simp [q5, evT, evN, evX, evE, evP, evV, Ex.opd, consM, ownM, lzM, callM, fo, slM, prtM, sl_tail, opd1, Opd.pre, Opd.get, pkV, look_tup, zz, if_pos zl]
end
end LB

namespace LB
open PySem L2 PyProof.Rows
/-- a comprehension over the pairs, whether they are frozen yet or not -/
theorem pairs_comp (S : List SO) (c0 : Nat) (h0 : c0 ∈ ([115, 114, 116] : List Nat)) (w : Str) (hw : w ∈ words) (ps : List D) (s10 : Sl) (h10 : s10 = .own (.lst (zipF ((formS w).cps.toList.map chr) ps)) ∨ s10 = .va (.lst (zipF ((formS w).cps.toList.map chr) ps)))
    (x0 x1 x2 x3 x4 x5 x6 x7 x8 x9 x11 x12 x13 : Sl) :
    lcM (seqM (evV 10)) (.tp (.cons (.nm 15) (.cons (.nm 16) .nil))) [15, 16] (opd2 (some 15, .no) (none, .ret (chr c0)) (cmpM .eq)) (evV 16) ⟨[x0, x1, x2, x3, x4, x5, x6, x7, x8, x9, s10, x11, x12, x13, .un, .un, .un], S⟩ =
      .ok (.lst (pick c0 (formS w).cps.toList ps)) ⟨[x0, x1, x2, x3, x4, x5, x6, x7, x8, x9, .va (.lst (zipF ((formS w).cps.toList.map chr) ps)), x11, x12, x13, .un, .un, .un], S⟩ := by
  have f1 := form_len w hw
  obtain ⟨a, b, lc⟩ := law_comp S c0 h0 x0 x1 x2 x3 x4 x5 x6 x7 x8 x9 (.va (.lst (zipF ((formS w).cps.toList.map chr) ps))) x11 x12 x13 .un (formS w).cps.toList ps [] .un .un (form_letters w hw) (by rw [List.length_nil]; omega)
  simp only [List.nil_append] at lc
  generalize zipF ((formS w).cps.toList.map chr) ps = P at *
  have cond : mayWipe [15, 16] [x0, x1, x2, x3, x4, x5, x6, x7, x8, x9, .va (.lst P), x11, x12, x13, .un, .un, .un] = true ∧ ∀ j ∈ (Tg.tp (.cons (.nm 15) (.cons (.nm 16) .nil))).slots, j ∈ [15, 16] := ⟨rfl, fun j hj => hj⟩
  rcases h10 with rfl | rfl <;> simp only [lcM, seqM, evV, Mo.bind_at, List.getElem?_cons_succ, List.getElem?_cons_zero, Res.bind_ok, Ob.d, itemsD, Mo.opt_some, List.set_cons_succ, List.set_cons_zero, if_pos cond, lc] <;> rfl
theorem first_pick (Φ : Str → Fn) (S : List SO) (c0 : Nat) (h0 : c0 ∈ ([115, 114, 116] : List Nat)) (w : Str) (hw : w ∈ words) (ps : List D) (s10 : Sl) (h10 : s10 = .own (.lst (zipF ((formS w).cps.toList.map chr) ps)) ∨ s10 = .va (.lst (zipF ((formS w).cps.toList.map chr) ps)))
    (x0 x1 x2 x3 x4 x5 x6 x7 x8 x9 x11 x12 x13 : Sl) :
    evE Φ (.ix (.bop .add (.nw (.lc (.seq (.v 10)) (.tp (.cons (.nm 15) (.cons (.nm 16) .nil))) [15, 16] (.cmp .eq (.v 15) (.k (chr c0))) (.v 16))) (.nw (.lst (.cons (.k .non) .nil)))) (.k (.int 0))) ⟨[x0, x1, x2, x3, x4, x5, x6, x7, x8, x9, s10, x11, x12, x13, .un, .un, .un], S⟩ =
      .ok (hd0 (pick c0 (formS w).cps.toList ps)) ⟨[x0, x1, x2, x3, x4, x5, x6, x7, x8, x9, .va (.lst (zipF ((formS w).cps.toList.map chr) ps)), x11, x12, x13, .un, .un, .un], S⟩ := by
  have pc := pairs_comp S c0 h0 w hw ps s10 h10 x0 x1 x2 x3 x4 x5 x6 x7 x8 x9 x11 x12 x13
  have f1 := form_len w hw
  have l1 := pick_len c0 (formS w).cps.toList ps
  have z1 : 1 ≤ sizeLine := by rw [sizeLine_eq]; decide
  have ad := add_lst (x := pick c0 (formS w).cps.toList ps) (y := [.non]) (h := by rw [sizeLine_eq]; simp; omega)
  have i0 : ixD (.lst (pick c0 (formS w).cps.toList ps ++ [.non])) (.int 0) = some (hd0 (pick c0 (formS w).cps.toList ps)) := hd_non _
  simp only [evE, evN, evS, evB, evX, Ex.opd, o2_ee, frz, Mo.bind_at, pc, Res.bind_ok, Mo.ret_at, Ob.d, lstM, consM, List.length_cons, List.length_nil, Nat.zero_add, if_pos z1, look_lst, look_int, ad, ixM, i0, Mo.opt_some]
theorem q6_ok (S : List SO) (w : Str) (hw : w ∈ words) (ps : List D) (x0 x1 x2 x3 x4 x5 x6 x7 x8 x9 x11 x12 x13 : Sl) : evT (lev ds 4) q6 ⟨[x0, x1, x2, x3, x4, x5, x6, x7, x8, x9, .own (.lst (zipF ((formS w).cps.toList.map chr) ps)), x11, x12, x13, .un, .un, .un], S⟩ =
    .ok .nx ⟨[x0, x1, x2, x3, x4, x5, x6, x7, x8, x9, .va (.lst (zipF ((formS w).cps.toList.map chr) ps)), .own (.lst [hd0 (pick 115 (formS w).cps.toList ps)]), x12, x13, .un, .un, .un], S⟩ := by
  have e := first_pick (lev ds 4) S 115 (by simp) w hw ps _ (.inl rfl) x0 x1 x2 x3 x4 x5 x6 x7 x8 x9 x11 x12 x13
  have q : q6 = .own 11 (.lst (.cons (.ix (.bop .add (.nw (.lc (.seq (.v 10)) (.tp (.cons (.nm 15) (.cons (.nm 16) .nil))) [15, 16] (.cmp .eq (.v 15) (.k (chr 115))) (.v 16))) (.nw (.lst (.cons (.k .non) .nil)))) (.k (.int 0))) .nil)) := by kernel_rfl
  rw [q]
  have z1 : 1 ≤ sizeLine := by rw [sizeLine_eq]; decide
  generalize Ex.ix _ _ = E at *
  simp only [evT, evN, evX, ownM, lstM, consM, Mo.bind_at, Mo.ret_at, Res.bind_ok, e, List.length_cons, List.length_nil, Nat.zero_add, Nat.reduceAdd, if_pos z1, Nat.reduceLT, if_true, List.set_cons_succ, List.set_cons_zero]
theorem q7_ok (S : List SO) (w : Str) (hw : w ∈ words) (ps : List D) (x0 x1 x2 x3 x4 x5 x6 x7 x8 x9 x12 x13 : Sl) (h : D) : evT (lev ds 4) q7 ⟨[x0, x1, x2, x3, x4, x5, x6, x7, x8, x9, .va (.lst (zipF ((formS w).cps.toList.map chr) ps)), .own (.lst [h]), x12, x13, .un, .un, .un], S⟩ =
    .ok .nx ⟨[x0, x1, x2, x3, x4, x5, x6, x7, x8, x9, .va (.lst (zipF ((formS w).cps.toList.map chr) ps)), .own (.lst [h, hd0 (pick 116 (formS w).cps.toList ps)]), x12, x13, .un, .un, .un], S⟩ := by
  have e := first_pick (lev ds 4) S 116 (by simp) w hw ps _ (.inr rfl) x0 x1 x2 x3 x4 x5 x6 x7 x8 x9 (.own (.lst [h])) x12 x13
  have q : q7 = .expr (.om .append (.v 11) (.cons (.ix (.bop .add (.nw (.lc (.seq (.v 10)) (.tp (.cons (.nm 15) (.cons (.nm 16) .nil))) [15, 16] (.cmp .eq (.v 15) (.k (chr 116))) (.v 16))) (.nw (.lst (.cons (.k .non) .nil)))) (.k (.int 0))) .nil)) := by kernel_rfl
  rw [q]
  have z1 : 1 < sizeLine := by rw [sizeLine_eq]; decide
  generalize Ex.ix _ _ = E at *
  generalize (pick 116 (formS w).cps.toList ps) = l at *
  generalize zipF ((formS w).cps.toList.map chr) ps = P at *
  simp [evT, evE, evX, dropM, consM, omM, omD, Opd.pl, Opd.pre, Ex.opd, pkV, Pl.get, Pl.set, Ob.ty, Om.ty, e, if_pos z1]
theorem upTo2 : rngD [.int 2] = some [.int 0, .int 1] := rfl
theorem q8_ok (S : List SO) (w : Str) (hw : w ∈ words) (ps : List D) (hp : Parts (Steps 1) (formS w).cps.toList ps) (x0 x1 x2 x3 x4 x5 x6 x7 x12 x13 : Sl) :
    ∃ y12 y13, evT (lev ds 4) q8 ⟨[x0, x1, x2, x3, x4, x5, x6, x7, .va (.tup (.str w :: ps)), .va (.str (D.tup (.str w :: ps)).toP.shown), .va (.lst (zipF ((formS w).cps.toList.map chr) ps)), .own (.lst [hd0 (pick 115 (formS w).cps.toList ps), hd0 (pick 116 (formS w).cps.toList ps)]), x12, x13, .un, .un, .un], S⟩ =
      .ok .nx ⟨[x0, x1, x2, x3, x4, x5, x6, x7, .va (.tup (.str w :: ps)), .va (.str (D.tup (.str w :: ps)).toP.shown), .va (.lst (zipF ((formS w).cps.toList.map chr) ps)), .own (.lst [hd0 (pick 115 (formS w).cps.toList ps), hd0 (pick 116 (formS w).cps.toList ps)]), y12, y13, .un, .un, .un], S⟩ := by
  obtain ⟨a1, e1⟩ := l1_turn S w hw ps hp x0 x1 x2 x3 x4 x5 x6 x7 (.va (.int 0)) x13 .un
  obtain ⟨a2, e2⟩ := l1_turn S w hw ps hp x0 x1 x2 x3 x4 x5 x6 x7 (.va (.int 1)) a1 .un
  refine ⟨.va (.int 1), a2, ?_⟩
  generalize zipF ((formS w).cps.toList.map chr) ps = P at *
  generalize (D.tup (.str w :: ps)).toP.shown = T at *
  generalize hd0 (pick 115 (formS w).cps.toList ps) = h1 at *
  generalize hd0 (pick 116 (formS w).cps.toList ps) = h2 at *
  simp only [q8, evT, evS, evX, evE, rngM, consM, forM, Mo.bind_at, Mo.ret_at, Res.bind_ok, upTo2, Mo.opt_some, forL, bindT, List.set_cons_succ, List.set_cons_zero, e1, e2]
theorem l2_turn (S : List SO) (sc kk : Sl) (n place : Int) (w : Str) (hw : w ∈ words) (hn : 0 ≤ n) (hn2 : n < 2 ^ 200) (hp : 0 ≤ place) (hp2 : place < 100) (x5 x6 x7 x8 x9 x10 x11 x12 x13 : Sl) :
    ∃ y5 y6 y7 y8 y9 y10 y11 y12 y13, evTs (lev ds 4) l2_law ⟨[sc, kk, .va (.int n), .va (.int place), .va (.str w), x5, x6, x7, x8, x9, x10, x11, x12, x13, .un, .un, .un], S⟩ = .ok .nx ⟨[sc, kk, .va (.int n), .va (.int place), .va (.str w), y5, y6, y7, y8, y9, y10, y11, y12, y13, .un, .un, .un], S⟩ := by
  obtain ⟨v, ht, v0, v1⟩ := turned_ok 3 n place S hn hn2 hp (by omega)
  obtain ⟨u, hu, u0, u1⟩ := turned_ok 3 v 1 S v0 (by omega) (by decide) (by decide)
  obtain ⟨bs, hbs, hb, hbl, hbb⟩ := some_at v
  have H : StepsAt 3 1 := steps_succ 0 0 (steps_zero 0)
  obtain ⟨ps, hps, hpl, hst⟩ := step_ok 2 1 w hw u 2 bs S hb hbl hbb u0 (by omega) fun z many h1 h2 h3 h4 => H z many (2 - 1) bs S rfl hb hbl hbb h1 (by omega) h3 h4
  have tm : Tm 4 1400 (.tup (.str w :: ps)) := (stp_tm (steps_tm 1) (capS_ge 1) ⟨w, ps, rfl, hw, hps⟩).up (by decide) (by decide)
  have rp : repD (.tup (.str w :: ps)) = some (D.tup (.str w :: ps)).toP.shown := tm.rep (by decide) (by decide)
  obtain ⟨y12, y13, e8⟩ := q8_ok S w hw ps hps sc kk (.va (.int n)) (.va (.int place)) (.va (.str w)) (.va (.int v)) (.own (.lst (box3 v))) (.va (.lst bs)) x12 x13
  refine ⟨.va (.int v), .own (.lst (box3 v)), .va (.lst bs), .va (.tup (.str w :: ps)), .va (.str (D.tup (.str w :: ps)).toP.shown), .va (.lst (zipF ((formS w).cps.toList.map chr) ps)), .own (.lst [hd0 (pick 115 (formS w).cps.toList ps), hd0 (pick 116 (formS w).cps.toList ps)]), y12, y13, ?_⟩
  rw [l2_parts, cons_ok (q0_ok S sc kk (.va (.str w)) x5 x6 x7 x8 x9 x10 x11 x12 x13 n place v ht), cons_ok (q1_ok S sc kk (.va (.int n)) (.va (.int place)) (.va (.str w)) x6 x7 x8 x9 x10 x11 x12 x13 v),
    cons_ok (q2_ok S sc kk (.va (.int n)) (.va (.int place)) (.va (.str w)) x7 x8 x9 x10 x11 x12 x13 v bs hbs), cons_ok (q3_ok S sc kk (.va (.int n)) (.va (.int place)) (.own (.lst (box3 v))) x8 x9 x10 x11 x12 x13 w v u bs ps hu hst),
    cons_ok (q4_ok S sc kk (.va (.int n)) (.va (.int place)) (.va (.str w)) (.va (.int v)) (.own (.lst (box3 v))) (.va (.lst bs)) x9 x10 x11 x12 x13 _ _ rfl _ rp),
    cons_ok (q5_ok S sc kk (.va (.int n)) (.va (.int place)) (.va (.int v)) (.own (.lst (box3 v))) (.va (.lst bs)) _ x10 x11 x12 x13 w hw ps), cons_ok (q6_ok S w hw ps _ _ _ _ _ _ _ _ _ _ _ _ _), cons_ok (q7_ok S w hw ps _ _ _ _ _ _ _ _ _ _ _ _ _), cons_ok e8]
  rfl

theorem l2_loop (S : List SO) (sc kk : Sl) (n : Int) (hn : 0 ≤ n) (hn2 : n < 2 ^ 200) : ∀ (ws : List Str) (i : Nat) (x3 x4 x5 x6 x7 x8 x9 x10 x11 x12 x13 : Sl), (∀ w ∈ ws, w ∈ words) → i + ws.length ≤ 50 →
    ∃ y3 y4 y5 y6 y7 y8 y9 y10 y11 y12 y13, forL (.tp (.cons (.nm 3) (.cons (.nm 4) .nil))) (evTs (lev ds 4) l2_law) (enumF i (ws.map .str)) ⟨[sc, kk, .va (.int n), x3, x4, x5, x6, x7, x8, x9, x10, x11, x12, x13, .un, .un, .un], S⟩ = .ok .nx ⟨[sc, kk, .va (.int n), y3, y4, y5, y6, y7, y8, y9, y10, y11, y12, y13, .un, .un, .un], S⟩
  | [], i, x3, x4, x5, x6, x7, x8, x9, x10, x11, x12, x13, _, _ => ⟨x3, x4, x5, x6, x7, x8, x9, x10, x11, x12, x13, rfl⟩
  | w :: ws, i, x3, x4, x5, x6, x7, x8, x9, x10, x11, x12, x13, hw, hl => by
    rw [List.length_cons] at hl
    obtain ⟨y5, y6, y7, y8, y9, y10, y11, y12, y13, e⟩ := l2_turn S sc kk n (i : Nat) w (hw w List.mem_cons_self) hn hn2 (by omega) (by omega) x5 x6 x7 x8 x9 x10 x11 x12 x13
    obtain ⟨z3, z4, z5, z6, z7, z8, z9, z10, z11, z12, z13, e2⟩ := l2_loop S sc kk n hn hn2 ws (i + 1) (.va (.int (i : Nat))) (.va (.str w)) y5 y6 y7 y8 y9 y10 y11 y12 y13 (fun x h => hw x (List.mem_cons_of_mem _ h)) (by omega)
    refine ⟨z3, z4, z5, z6, z7, z8, z9, z10, z11, z12, z13, ?_⟩
    simp only [List.map_cons, enumF, forL, bindT, bindTs, tupOf, List.set_cons_succ, List.set_cons_zero, e, Res.bind_ok]
    exact e2
theorem l3_turn (S : List SO) (ns : List Int) (hl : ns.length ≤ 63) (j : Int) (hj : 0 ≤ j) (hj2 : j < 1000) (x2 x3 x4 x5 x6 x7 x8 x9 x10 x11 x12 x13 : Sl) :
    ∃ y2 y3 y4 y5 y6 y7 y8 y9 y10 y11 y12 y13, evTs (lev ds 4) l3_law ⟨[.va (.lst (ns.map .int)), .va (.int j), x2, x3, x4, x5, x6, x7, x8, x9, x10, x11, x12, x13, .un, .un, .un], S⟩ = .ok .nx ⟨[.va (.lst (ns.map .int)), .va (.int j), y2, y3, y4, y5, y6, y7, y8, y9, y10, y11, y12, y13, .un, .un, .un], S⟩ := by
  obtain ⟨v, hm, v0, v1⟩ := mixed_ok 3 ns j S hl hj hj2
  have wk := words_ok 3 S
  obtain ⟨y3, y4, y5, y6, y7, y8, y9, y10, y11, y12, y13, e⟩ := l2_loop S (.va (.lst (ns.map .int))) (.va (.int j)) v v0 (by omega) words 0 x3 x4 x5 x6 x7 x8 x9 x10 x11 x12 x13 (fun _ h => h) (by decide)
  refine ⟨.va (.int v), y3, y4, y5, y6, y7, y8, y9, y10, y11, y12, y13, ?_⟩
  generalize ns.map D.int = L at *
  generalize words.map D.str = Ws at *
  simp only [l3_law, evTs, evT, evS, evX, evE, evV, enM, consM, forM, seqS, skipM, asgM, setT, bindT, callM, Mo.bind_at, Mo.ret_at, Res.bind_ok, List.getElem?_cons_succ, List.getElem?_cons_zero, List.set_cons_succ, List.set_cons_zero, hm, wk, enD, itemsD, Option.map_some, Mo.opt_some, e]
theorem l3_loop (S : List SO) (ns : List Int) (hl : ns.length ≤ 63) : ∀ (js : List Int) (x1 x2 x3 x4 x5 x6 x7 x8 x9 x10 x11 x12 x13 : Sl), (∀ j ∈ js, 0 ≤ j ∧ j < 1000) →
    ∃ m', forL (.nm 1) (evTs (lev ds 4) l3_law) (js.map .int) ⟨[.va (.lst (ns.map .int)), x1, x2, x3, x4, x5, x6, x7, x8, x9, x10, x11, x12, x13, .un, .un, .un], S⟩ = .ok .nx ⟨m', S⟩
  | [], x1, x2, x3, x4, x5, x6, x7, x8, x9, x10, x11, x12, x13, _ => ⟨_, rfl⟩
  | j :: js, x1, x2, x3, x4, x5, x6, x7, x8, x9, x10, x11, x12, x13, h => by
    obtain ⟨h1, h2⟩ := h j List.mem_cons_self
    obtain ⟨y2, y3, y4, y5, y6, y7, y8, y9, y10, y11, y12, y13, e⟩ := l3_turn S ns hl j h1 h2 x2 x3 x4 x5 x6 x7 x8 x9 x10 x11 x12 x13
    obtain ⟨m', e2⟩ := l3_loop S ns hl js (.va (.int j)) y2 y3 y4 y5 y6 y7 y8 y9 y10 y11 y12 y13 fun x hx => h x (List.mem_cons_of_mem _ hx)
    refine ⟨m', ?_⟩
    generalize ns.map D.int = L at *
    simp only [List.map_cons, forL, bindT, List.set_cons_succ, List.set_cons_zero, e, Res.bind_ok]
    exact e2
theorem at_law (k : Nat) : lev ds (k + 1) "law" = bodyF 17 (evTs (lev ds k) b_law) := by kernel_rfl
theorem law_true (ns : List Int) (hl : ns.length ≤ 63) : ∃ m, lev ds 5 "law" [.lst (ns.map .int)] ⟨[], []⟩ = .ok (.bl true) m := by
  rw [at_law]
  generalize hM : (if (ns.length : Int) < 30 then (ns.length : Int) else 30) = M
  have M0 : 0 ≤ M ∧ M ≤ 30 := by rw [← hM]; split <;> omega
  have up : rngD [.int (1 + M)] = some (((List.range (1 + M).toNat).map fun (i : Nat) => (i : Int)).map .int) := by
    simp only [rngD]
    rw [if_pos (by simp [small62]; omega)]
    congr 1
    unfold upTo
    rw [List.map_map]
    exact List.map_congr_left fun j _ => by simp
  obtain ⟨m', e⟩ := l3_loop [] ns hl ((List.range (1 + M).toNat).map fun (i : Nat) => (i : Int)) .un .un .un .un .un .un .un .un .un .un .un .un .un (fun j hj => by
    obtain ⟨i, hi, rfl⟩ := List.mem_map.mp hj
    have := List.mem_range.mp hi
    omega)
  have ll : lenD (.lst (ns.map .int)) = some ns.length := by show some (ns.map D.int).length = _; rw [List.length_map]
  refine ⟨⟨[], []⟩, bodyF_rt (ρ := m') ?_⟩
  generalize ns.map D.int = L at *
  generalize ((List.range (1 + M).toNat).map fun (i : Nat) => (i : Int)) = J at *
  show evTs (lev ds 4) b_law ⟨[.va (.lst L), .un, .un, .un, .un, .un, .un, .un, .un, .un, .un, .un, .un, .un, .un, .un, .un], []⟩ = _
  have mn : mn2D false (.int 30) (.int ns.length) = some (.int M) := by
    show some (D.int (if (ns.length : Int) < 30 then (ns.length : Int) else 30)) = _
    rw [hM]
  simp [b_law, evTs, evT, evS, evX, evE, evV, Ex.opd, o1_v, o1_e, o2_ee, pkV, look_int, look_lst, bi1M, bi1D, ll, mn2M, mn, add_int, rngM, consM, forM, seqS, skipM, retM, up, e]
end LB

namespace LB
open PySem L2 PyProof.Rows PySem.Spec
def formsE : List (Str × D) := [("set", (.str "sn")), ("copy", (.str "sr")), ("add", (.str "srr")), ("sub", (.str "srr")), ("less", (.str "srr")), ("same", (.str "srr")), ("mix", (.str "srr")), ("pick", (.str "srrr")), ("times", (.str "srr")), ("parts", (.str "srr")), ("take", (.str "str")), ("put", (.str "trr")), ("touch", (.str "tr")), ("tell", (.str "r")), ("idle", (.str "m")), ("if", (.str "raa")), ("round", (.str "ga")), ("turn", (.str "ra"))]
def Pk : Prg := ⟨["enumerate", "zip", "range", "len", "tuple", "list", "repr", "isinstance", "int", "min", "max"], fnsOf ds, [("FORMS", .kdc formsE), ("SET_BOX", .str "s"), ("READ_BOX", .str "r"), ("A_TABLE", .str "t")]⟩
theorem all_ok : ∀ d ∈ ds, d.Ok Pk := by
  intro d hd
  simp only [ds, List.mem_cons, List.not_mem_nil, or_false] at hd
  rcases hd with rfl | rfl | rfl | rfl | rfl | rfl | rfl | rfl | rfl | rfl | rfl | rfl | rfl <;>
    exact ⟨⟨300, by kernel_rfl⟩, ⟨rfl, rfl, rfl, by decide +kernel, rfl, by decide +kernel, by decide +kernel⟩⟩
/-! ### the head -/
def fn : List He.DefD := ds.map fun d => ⟨(d.x, none), d.x, d.x, d.ar, d.body, d.scope, [], []⟩
def fa : List He.Fa := (.glo "FORMS") :: (ds.map fun d => .glo d.x) ++ (Pk.free.map fun x => .free x)
def ts : List He.Tab := [(fun K => He.ga K "FORMS", formsE.map (·.1))]
def ex (K : PySem.W.Frag) : Bool := noLst K && (mcB K "SET_BOX" (.str "s") && (mcB K "READ_BOX" (.str "r") && (mcB K "A_TABLE" (.str "t") && kdB K (He.ga K "FORMS") formsE)))
abbrev R : PySem.W.OpenRow := PySem.W.OpenLaw.row PySem.Challenge.rw_likebeats_k03_steps_read
abbrev hk : PySem.W.Hook := He.hookX 4 fa fn ts [] ex
def ob (s : PySem.W.SharedT) : He.AlX := He.obsX 4 fa fn ts [] ex (HandSHeadRun.getT s)
theorem ob_eq (s : PySem.W.SharedT) : ob s = hk.obs s.abs := He.obsX_eq (HandSHeadRun.getT_eq s)
def loose : List Str := ["SET_BOX", "READ_BOX", "A_TABLE", "FORMS", "parts_of", "reads", "sets", "table_of", "_law_mixed", "_law_turned", "_law_form", "_law_words", "_law_step", "_law_steps", "_law_boxes", "_law_paths"]
theorem run0 (w : World) : HandSHeadRun.RunEq R (PySem.W.view R.prog [18]) hk ob 2000 loose (w.withFollow "special-get-raises" false) := by
  intro os
  kernel_rfl
theorem run1 (w : World) : HandSHeadRun.RunEq R (PySem.W.view R.prog [18]) hk ob 2000 loose (w.withFollow "special-get-raises" true) := by
  intro os
  kernel_rfl
theorem run (w : World) : HandSHeadRun.RunEq R (PySem.W.view R.prog [18]) hk ob 2000 loose w := PySem.W.byRow2 "special-get-raises" (P := fun w => HandSHeadRun.RunEq R (PySem.W.view R.prog [18]) hk ob 2000 loose w) run0 run1 w
theorem arity : ∀ d ∈ ds, ∀ (K : PySem.W.Frag) (f : Addr) (fd : FuncData), FunD K d.x d.x d.ar d.body d.scope [] [] f fd → Binds K fd d.ps [] := by
  intro d hd K f fd F
  simp only [ds, List.mem_cons, List.not_mem_nil, or_false] at hd
  rcases hd with rfl | rfl | rfl | rfl | rfl | rfl | rfl | rfl | rfl | rfl | rfl | rfl | rfl <;>
    refine F.bindsN fun _ _ _ _ _ _ us hl => ?_ <;> first
      | exact (match us, hl with | [], _ => rfl)
      | exact (match us, hl with | [_], _ => rfl)
      | exact (match us, hl with | [_, _], _ => rfl)
      | exact (match us, hl with | [_, _, _], _ => rfl)
      | exact (match us, hl with | [_, _, _, _], _ => rfl)
theorem mc_at {K : PySem.W.Frag} {w : World} {h : Heap} {mg : Str → Option Value} (X : K.In h) (G : h.Ns mainGlobals mg) {x : Str} {d : D} (e : mcB K x d = true) : ∃ v u, mg x = some u ∧ RelV v u ∧ ∀ G μ N, DV ⟨K, w, mg⟩ G μ N d v := by
  unfold mcB at e
  split at e
  · rename_i u q
    obtain ⟨v, r, k⟩ := dcB_ok (w := w) (mg := mg) 9 u d e
    exact ⟨v, u, PySem.W.mg_of X G q, r, k⟩
  · cases e
theorem kd_at {K : PySem.W.Frag} {w : World} {mg : Str → Option Value} {x : Str} {a : Addr} {es : Array DictEntry} {n : Nat} {kvs : List (Str × D)} (hm : mg x = some (.ref a)) (k : KDict K w a es n) (e : kdB K a kvs = true) : ∃ v u, mg x = some u ∧ RelV v u ∧ ∀ G μ N, DV ⟨K, w, mg⟩ G μ N (.kdc kvs) v := by
  refine ⟨.ref a, .ref a, hm, rfl, fun G μ N => .kd k ?_⟩
  unfold kdB at e
  rw [k.at_] at e
  exact esB_ok es.toList kvs e G μ N
theorem facts {w : World} {K : PySem.W.Frag} {h : Heap} {mg : Str → Option Value} {f : Addr} (X : K.In h) (G : h.Ns mainGlobals mg) (hfa : mg ("law" : Str) = some (.ref f)) (c : He.SaysX fa fn ts [] ex w h K) :
    ∃ fd : FuncData, noLst K = true ∧ (∀ (s : Shared) (v : Value), BindsTo s fd ⟨[v], []⟩ [("_law_script", v)]) ∧ ∀ base : Heap, K.In base → base.Ns mainGlobals mg → FnG PySem.Challenge.rw_likebeats_k03_steps_read.prog w K mg base 5 f fd ["_law_script"] (spF ⟨K, w, mg⟩ 1 (lev ds 5 "law")) := by
  have sd := c.t.d
  have cm := c.more
  unfold ex at cm
  simp only [Bool.and_eq_true] at cm
  obtain ⟨c0, c1, c2, c3, c4⟩ := cm
  obtain ⟨es, n, kd⟩ := c.t.tab 0 (t := (fun K => He.ga K "FORMS", formsE.map (·.1))) rfl
  have gf := He.glo_ok X G (sd.facts (f := .glo "FORMS") List.mem_cons_self)
  have hglo : ∀ d ∈ ds, mg d.x = some (.ref (He.ga K d.x)) := fun d hd => He.glo_ok X G (sd.facts (f := .glo d.x) (List.mem_append_left _ (List.mem_cons_of_mem _ (List.mem_map.mpr ⟨d, hd, rfl⟩))))
  have hfree : ∀ x ∈ Pk.free, mg x = none := fun x hx => He.free_ok X G (sd.facts (f := .free x) (List.mem_append_right _ (List.mem_map.mpr ⟨x, hx, rfl⟩)))
  have hdef : ∀ d ∈ ds, ∃ f fd, FunD K d.x d.x d.ar d.body d.scope [] [] f fd ∧ mg d.x = some (.ref f) ∧ Binds K fd d.ps [] := fun d hd => by
    obtain ⟨fd, F⟩ := sd.defs (d := ⟨(d.x, none), d.x, d.x, d.ar, d.body, d.scope, [], []⟩) (List.mem_map.mpr ⟨d, hd, rfl⟩)
    exact ⟨_, fd, F, hglo d hd, arity d hd K _ fd F⟩
  have hcs : ∀ x d, Pk.cs.lookup x = some d → ∃ v u, mg x = some u ∧ RelV v u ∧ ∀ G μ N, DV ⟨K, w, mg⟩ G μ N d v := fun x d e => by
    have m := look_in e
    simp only [Pk, List.mem_cons, List.not_mem_nil, or_false, Prod.mk.injEq] at m
    rcases m with ⟨rfl, rfl⟩ | ⟨rfl, rfl⟩ | ⟨rfl, rfl⟩ | ⟨rfl, rfl⟩
    · exact kd_at gf kd c4
    · exact mc_at X G c1
    · exact mc_at X G c2
    · exact mc_at X G c3
  obtain ⟨fd, F⟩ := sd.defs (d := ⟨("law", none), "law", "law", d_law.ar, d_law.body, d_law.scope, [], []⟩) (List.mem_map.mpr ⟨d_law, by simp [ds], rfl⟩)
  have ml : d_law ∈ ds := by simp [ds]
  have ef : f = He.ga K "law" := by
    have q := hglo d_law ml
    have q' : mg ("law" : Str) = some (.ref (He.ga K "law")) := q
    rw [hfa] at q'
    cases q'
    rfl
  subst ef
  refine ⟨fd, c0, fun s v => ?_, fun base _ _ => lev_at hfree hcs rfl all_ok hdef 4 ml (by kernel_rfl) F⟩
  exact FunD.bindsA (ps := ["_law_script"]) F (fun _ _ _ _ _ _ us hl => match us, hl with | [_], _ => rfl) s [v] rfl
end LB
open PySem PySem.W PySem.Calls PyProof.Rows
theorem PySem.Challenge.cw_likebeats_k03_steps_read_holds : PySem.Challenge.rw_likebeats_k03_steps_read.Holds := by
  w_on; o_law
  refine HandSHeadRun.head_any (r := LB.R) (q := view LB.R.prog [18]) (H := LB.hk) (ob := LB.ob) (M := 2000) (loose := LB.loose) (d := HandSHeadRun.topDef LB.R.prog 18) (kwd := []) LB.ob_eq
    (by kernel_rfl) (fun s => by kernel_rfl) LB.run (by kernel_rfl) (by kernel_rfl) (by kernel_rfl) (by rfl) (by first | assumption | decide +kernel) (by decide +kernel) ⟨rfl, rfl, rfl, rfl, rfl, by decide +kernel⟩ ?hw ?hc
  case hw => w_witness2
  case hc =>
    refine LB.walkG (l := PySem.Challenge.rw_likebeats_k03_steps_read) (n := 63) (k := 5) (x := "_law_script") rfl (by decide) (by kernel_rfl) ⟨⟨rfl, by decide, by decide⟩, rfl⟩ ?T
    intro w mg fa h Y G hmg0
    obtain ⟨K, KX, c⟩ := Y
    have hmg : mg ("law" : PySem.Str) = some (.ref fa) := by
      have e : (HandSHeadRun.topDef LB.R.prog 18).name = ("law" : PySem.Str) := by kernel_rfl
      rw [← e]
      exact hmg0
    obtain ⟨fd, hno, hb, hF⟩ := LB.facts KX G hmg c
    exact ⟨K, fd, LB.lev LB.ds 5 "law", KX, hno, hb, fun ns hl => LB.law_true ns hl, hF⟩
